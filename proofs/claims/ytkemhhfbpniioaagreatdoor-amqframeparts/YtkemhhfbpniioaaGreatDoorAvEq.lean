/- An abstract machine for the modelled code, and what its runs say of real calls. Part of a proof of a given statement: for every input the law returns true and the arguments read as before; no condition beyond the given row. -/
import Derived.Test.YtkemhhfbpniioaaGreatDoorAvBase
namespace Go.Av
noncomputable section
mutual
def Qd4 : PV → PV → Bool
 | .bool a, .bool b => a == b
 | .int k n, .int k' n' => decide (k = k') && decide (n = n')
 | .str s, .str t => decide (s = t)
 | .nilPtr, .nilPtr => true
 | .nilSlice, .nilSlice => true
 | .slice e r, .slice e' r' => Nat.beq e e' && Qai r r'
 | .nilMap, .nilMap => true
 | .func (.func f) a b, .func (.func g) c d => Nat.beq f g && (Q86 a c && Q86 b d)
 | .nilFunc, .nilFunc => true
 | .nilIface, .nilIface => true
 | .agg a, .agg b => Q86 a b
 | .tuple a, .tuple b => Q86 a b
 | _, _ => false
def Q86 : List PV → List PV → Bool
 | [], [] => true
 | a :: r, b :: s => Qd4 a b && Q86 r s
 | _, _ => false
def Qai : List (List PV) → List (List PV) → Bool
 | [], [] => true
 | a :: r, b :: s => Q86 a b && Qai r s
 | _, _ => false
end
mutual
theorem Qkw : ∀ (a b : PV), Qd4 a b = true → a = b
 | .bool a, b, h => by cases b <;> simp [Qd4] at h; subst h; rfl
 | .int k n, b, h => by cases b <;> simp [Qd4] at h; obtain ⟨rfl, rfl⟩ := h; rfl
 | .str s, b, h => by cases b <;> simp [Qd4] at h; subst h; rfl
 | .nilPtr, b, h => by cases b <;> simp [Qd4] at h; rfl
 | .nilSlice, b, h => by cases b <;> simp [Qd4] at h; rfl
 | .slice e r, b, h => by
  cases b <;> simp [Qd4] at h
  obtain ⟨rfl, h2⟩ := h
  rw [Qdd r _ h2]
 | .nilMap, b, h => by cases b <;> simp [Qd4] at h; rfl
 | .pmap es, b, h => by cases b <;> simp [Qd4] at h
 | .func fn a c, b, h => by
  cases b <;> cases fn <;> try (simp [Qd4] at h; done)
  rename_i fn' a' c' f
  cases fn' <;> simp [Qd4] at h
  obtain ⟨rfl, h2, h3⟩ := h
  rw [Q2m a _ h2, Q2m c _ h3]
 | .nilFunc, b, h => by cases b <;> simp [Qd4] at h; rfl
 | .iface t v, b, h => by cases b <;> simp [Qd4] at h
 | .nilIface, b, h => by cases b <;> simp [Qd4] at h; rfl
 | .agg a, b, h => by
  cases b <;> simp [Qd4] at h
  rw [Q2m a _ h]
 | .tuple a, b, h => by
  cases b <;> simp [Qd4] at h
  rw [Q2m a _ h]
theorem Q2m : ∀ (a b : List PV), Q86 a b = true → a = b
 | [], b, h => by cases b <;> simp [Q86] at h; rfl
 | x :: r, b, h => by
  cases b with
  | nil => simp [Q86] at h
  | cons y s =>
   simp only [Q86, Bool.and_eq_true] at h
   rw [Qkw x y h.1, Q2m r s h.2]
theorem Qdd : ∀ (a b : List (List PV)), Qai a b = true → a = b
 | [], b, h => by cases b <;> simp [Qai] at h; rfl
 | x :: r, b, h => by
  cases b with
  | nil => simp [Qai] at h
  | cons y s =>
   simp only [Qai, Bool.and_eq_true] at h
   rw [Q2m x y h.1, Qdd r s h.2]
end
mutual
def Qg9 : AV → AV → Bool
 | .p a, .p b => Qd4 a b
 | .ptr a o, .ptr b p => Nat.beq a b && Nat.beq o p
 | .gptr a o, .gptr b p => Nat.beq a b && Nat.beq o p
 | .rptr a, .rptr b => Q86 a b
 | .slice e a o l, .slice e' a' o' l' => Nat.beq e e' && (Nat.beq a a' && (Nat.beq o o' && Nat.beq l l'))
 | .map a, .map b => Nat.beq a b
 | .func (.func f) a b, .func (.func g) c d => Nat.beq f g && (Qab a c && Qab b d)
 | .iface t v, .iface t' v' => Nat.beq t t' && Qg9 v v'
 | .agg a, .agg b => Qab a b
 | .tuple a, .tuple b => Qab a b
 | .any, .any => true
 | _, _ => false
def Qab : List AV → List AV → Bool
 | [], [] => true
 | a :: r, b :: s => Qg9 a b && Qab r s
 | _, _ => false
end
mutual
theorem Qlv : ∀ (a b : AV), Qg9 a b = true → a = b
 | .p a, b, h => by cases b <;> simp [Qg9] at h; rw [Qkw _ _ h]
 | .ptr a o, b, h => by cases b <;> simp [Qg9] at h; obtain ⟨rfl, rfl⟩ := h; rfl
 | .gptr a o, b, h => by cases b <;> simp [Qg9] at h; obtain ⟨rfl, rfl⟩ := h; rfl
 | .rptr a, b, h => by cases b <;> simp [Qg9] at h; rw [Q2m _ _ h]
 | .slice e a o l, b, h => by cases b <;> simp [Qg9] at h; obtain ⟨rfl, rfl, rfl, rfl⟩ := h; rfl
 | .map a, b, h => by cases b <;> simp [Qg9] at h; subst h; rfl
 | .func fn a c, b, h => by
  cases b <;> cases fn <;> try (simp [Qg9] at h; done)
  rename_i fn' a' c' f
  cases fn' <;> simp [Qg9] at h
  obtain ⟨rfl, h2, h3⟩ := h
  rw [Q42 a _ h2, Q42 c _ h3]
 | .iface t v, b, h => by
  cases b <;> simp [Qg9] at h
  obtain ⟨h1, h2⟩ := h
  rw [Qlv v _ h2, h1]
 | .agg a, b, h => by
  cases b <;> simp [Qg9] at h
  rw [Q42 a _ h]
 | .tuple a, b, h => by
  cases b <;> simp [Qg9] at h
  rw [Q42 a _ h]
 | .any, b, h => by cases b <;> simp [Qg9] at h; rfl
theorem Q42 : ∀ (a b : List AV), Qab a b = true → a = b
 | [], b, h => by cases b <;> simp [Qab] at h; rfl
 | x :: r, b, h => by
  cases b with
  | nil => simp [Qab] at h
  | cons y s =>
   simp only [Qab, Bool.and_eq_true] at h
   rw [Qlv x y h.1, Q42 r s h.2]
end
def Qpo : AObj → AObj → Bool
 | .cells a, .cells b => Qab a b
 | .strIter s p, .strIter t q => decide (s = t) && Nat.beq p q
 | .dead, .dead => true
 | _, _ => false
theorem Qni (a b : AObj) (h : Qpo a b = true) : a = b := by
 cases a <;> cases b <;> simp [Qpo] at h
 ·rw [Q42 _ _ h]
 ·obtain ⟨rfl, rfl⟩ := h; rfl
 ·rfl
def Qlc : List AObj → List AObj → Bool
 | [], _ => true
 | o :: r, o' :: r' => Qpo o o' && Qlc r r'
 | _ :: _, [] => false
theorem Qhh : ∀ (m H : List AObj), Qlc m H = true → ∃ rest, H = m ++ rest
 | [], H, _ => ⟨H, rfl⟩
 | o :: r, o' :: r', h => by
  simp only [Qlc, Bool.and_eq_true] at h
  obtain ⟨rest, e⟩ := Qhh r r' h.2
  exact ⟨rest, by rw [Qni _ _ h.1, e]; rfl⟩
 | _ :: _, [], h => by simp [Qlc] at h
def Qge : Nat → List AObj → AV → List Nat
 | 0, _, _ => []
 | n + 1, H, v => match v with
  | .ptr a _ => a :: refsDo n H (H[a]?)
  | .slice _ a _ _ => a :: refsDo n H (H[a]?)
  | .map a => [a]
  | .func _ a b => a.flatMap (Qge n H) ++ b.flatMap (Qge n H)
  | .iface _ v => Qge n H v
  | .agg cs => cs.flatMap (Qge n H)
  | .tuple cs => cs.flatMap (Qge n H)
  | _ => []
where refsDo (n : Nat) (H : List AObj) : Option AObj → List Nat
 | some (.cells cs) => cs.flatMap (Qge n H)
 | _ => []
end
end Go.Av
