/- An abstract machine for the modelled code, and what its runs say of real calls. Part of a proof of a given statement: for every input the law returns true and the arguments read as before; no condition beyond the given row. -/
import Derived.Test.YtkemhhfbpniioaaGreatDoorAvBase
namespace Go.Av
noncomputable section
mutual
def Qi8 : PV → PV → Bool
 | .bool a, .bool b => a == b
 | .int k n, .int k' n' => decide (k = k') && decide (n = n')
 | .str s, .str t => decide (s = t)
 | .nilPtr, .nilPtr => true
 | .nilSlice, .nilSlice => true
 | .slice e r, .slice e' r' => Nat.beq e e' && Qg4 r r'
 | .nilMap, .nilMap => true
 | .func (.func f) a b, .func (.func g) c d => Nat.beq f g && (Qe8 a c && Qe8 b d)
 | .nilFunc, .nilFunc => true
 | .nilIface, .nilIface => true
 | .agg a, .agg b => Qe8 a b
 | .tuple a, .tuple b => Qe8 a b
 | _, _ => false
def Qe8 : List PV → List PV → Bool
 | [], [] => true
 | a :: r, b :: s => Qi8 a b && Qe8 r s
 | _, _ => false
def Qg4 : List (List PV) → List (List PV) → Bool
 | [], [] => true
 | a :: r, b :: s => Qe8 a b && Qg4 r s
 | _, _ => false
end
mutual
theorem Qqz : ∀ (a b : PV), Qi8 a b = true → a = b
 | .bool a, b, h => by cases b <;> simp [Qi8] at h; subst h; rfl
 | .int k n, b, h => by cases b <;> simp [Qi8] at h; obtain ⟨rfl, rfl⟩ := h; rfl
 | .str s, b, h => by cases b <;> simp [Qi8] at h; subst h; rfl
 | .nilPtr, b, h => by cases b <;> simp [Qi8] at h; rfl
 | .nilSlice, b, h => by cases b <;> simp [Qi8] at h; rfl
 | .slice e r, b, h => by
  cases b <;> simp [Qi8] at h
  obtain ⟨rfl, h2⟩ := h
  rw [Qkn r _ h2]
 | .nilMap, b, h => by cases b <;> simp [Qi8] at h; rfl
 | .pmap es, b, h => by cases b <;> simp [Qi8] at h
 | .func fn a c, b, h => by
  cases b <;> cases fn <;> try (simp [Qi8] at h; done)
  rename_i fn' a' c' f
  cases fn' <;> simp [Qi8] at h
  obtain ⟨rfl, h2, h3⟩ := h
  rw [Q6k a _ h2, Q6k c _ h3]
 | .nilFunc, b, h => by cases b <;> simp [Qi8] at h; rfl
 | .iface t v, b, h => by cases b <;> simp [Qi8] at h
 | .nilIface, b, h => by cases b <;> simp [Qi8] at h; rfl
 | .agg a, b, h => by
  cases b <;> simp [Qi8] at h
  rw [Q6k a _ h]
 | .tuple a, b, h => by
  cases b <;> simp [Qi8] at h
  rw [Q6k a _ h]
theorem Q6k : ∀ (a b : List PV), Qe8 a b = true → a = b
 | [], b, h => by cases b <;> simp [Qe8] at h; rfl
 | x :: r, b, h => by
  cases b with
  | nil => simp [Qe8] at h
  | cons y s =>
   simp only [Qe8, Bool.and_eq_true] at h
   rw [Qqz x y h.1, Q6k r s h.2]
theorem Qkn : ∀ (a b : List (List PV)), Qg4 a b = true → a = b
 | [], b, h => by cases b <;> simp [Qg4] at h; rfl
 | x :: r, b, h => by
  cases b with
  | nil => simp [Qg4] at h
  | cons y s =>
   simp only [Qg4, Bool.and_eq_true] at h
   rw [Q6k x y h.1, Qkn r s h.2]
end
mutual
def Qlj : AV → AV → Bool
 | .p a, .p b => Qi8 a b
 | .ptr a o, .ptr b p => Nat.beq a b && Nat.beq o p
 | .gptr a o, .gptr b p => Nat.beq a b && Nat.beq o p
 | .rptr a, .rptr b => Qe8 a b
 | .slice e a o l, .slice e' a' o' l' => Nat.beq e e' && (Nat.beq a a' && (Nat.beq o o' && Nat.beq l l'))
 | .map a, .map b => Nat.beq a b
 | .func (.func f) a b, .func (.func g) c d => Nat.beq f g && (Qf4 a c && Qf4 b d)
 | .iface t v, .iface t' v' => Nat.beq t t' && Qlj v v'
 | .agg a, .agg b => Qf4 a b
 | .tuple a, .tuple b => Qf4 a b
 | .any, .any => true
 | _, _ => false
def Qf4 : List AV → List AV → Bool
 | [], [] => true
 | a :: r, b :: s => Qlj a b && Qf4 r s
 | _, _ => false
end
mutual
theorem Qpn : ∀ (a b : AV), Qlj a b = true → a = b
 | .p a, b, h => by cases b <;> simp [Qlj] at h; rw [Qqz _ _ h]
 | .ptr a o, b, h => by cases b <;> simp [Qlj] at h; obtain ⟨rfl, rfl⟩ := h; rfl
 | .gptr a o, b, h => by cases b <;> simp [Qlj] at h; obtain ⟨rfl, rfl⟩ := h; rfl
 | .rptr a, b, h => by cases b <;> simp [Qlj] at h; rw [Q6k _ _ h]
 | .slice e a o l, b, h => by cases b <;> simp [Qlj] at h; obtain ⟨rfl, rfl, rfl, rfl⟩ := h; rfl
 | .map a, b, h => by cases b <;> simp [Qlj] at h; subst h; rfl
 | .func fn a c, b, h => by
  cases b <;> cases fn <;> try (simp [Qlj] at h; done)
  rename_i fn' a' c' f
  cases fn' <;> simp [Qlj] at h
  obtain ⟨rfl, h2, h3⟩ := h
  rw [Q85 a _ h2, Q85 c _ h3]
 | .iface t v, b, h => by
  cases b <;> simp [Qlj] at h
  obtain ⟨h1, h2⟩ := h
  rw [Qpn v _ h2, h1]
 | .agg a, b, h => by
  cases b <;> simp [Qlj] at h
  rw [Q85 a _ h]
 | .tuple a, b, h => by
  cases b <;> simp [Qlj] at h
  rw [Q85 a _ h]
 | .any, b, h => by cases b <;> simp [Qlj] at h; rfl
theorem Q85 : ∀ (a b : List AV), Qf4 a b = true → a = b
 | [], b, h => by cases b <;> simp [Qf4] at h; rfl
 | x :: r, b, h => by
  cases b with
  | nil => simp [Qf4] at h
  | cons y s =>
   simp only [Qf4, Bool.and_eq_true] at h
   rw [Qpn x y h.1, Q85 r s h.2]
end
def Qx6 : AObj → AObj → Bool
 | .cells a, .cells b => Qf4 a b
 | .strIter s p, .strIter t q => decide (s = t) && Nat.beq p q
 | .dead, .dead => true
 | _, _ => false
theorem Qu7 (a b : AObj) (h : Qx6 a b = true) : a = b := by
 cases a <;> cases b <;> simp [Qx6] at h
 ·rw [Q85 _ _ h]
 ·obtain ⟨rfl, rfl⟩ := h; rfl
 ·rfl
def Qpo : List AObj → List AObj → Bool
 | [], _ => true
 | o :: r, o' :: r' => Qx6 o o' && Qpo r r'
 | _ :: _, [] => false
theorem Qnr : ∀ (m H : List AObj), Qpo m H = true → ∃ rest, H = m ++ rest
 | [], H, _ => ⟨H, rfl⟩
 | o :: r, o' :: r', h => by
  simp only [Qpo, Bool.and_eq_true] at h
  obtain ⟨rest, e⟩ := Qnr r r' h.2
  exact ⟨rest, by rw [Qu7 _ _ h.1, e]; rfl⟩
 | _ :: _, [], h => by simp [Qpo] at h
def Qll : Nat → List AObj → AV → List Nat
 | 0, _, _ => []
 | n + 1, H, v => match v with
  | .ptr a _ => a :: refsDo n H (H[a]?)
  | .slice _ a _ _ => a :: refsDo n H (H[a]?)
  | .map a => [a]
  | .func _ a b => a.flatMap (Qll n H) ++ b.flatMap (Qll n H)
  | .iface _ v => Qll n H v
  | .agg cs => cs.flatMap (Qll n H)
  | .tuple cs => cs.flatMap (Qll n H)
  | _ => []
where refsDo (n : Nat) (H : List AObj) : Option AObj → List Nat
 | some (.cells cs) => cs.flatMap (Qll n H)
 | _ => []
end
end Go.Av
