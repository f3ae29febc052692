/- An abstract machine for the modelled code, and what its runs say of real calls. Part of a proof of a given statement: for every input the law returns true and the arguments read as before; no condition beyond the given row. -/
import Derived.Test.YtkemhhfbpniioaaGreatDoorAvBase
namespace Go.Av
noncomputable section
mutual
def Qc1 : PV → PV → Bool
 | .bool a, .bool b => a == b
 | .int k n, .int k' n' => decide (k = k') && decide (n = n')
 | .str s, .str t => decide (s = t)
 | .nilPtr, .nilPtr => true
 | .nilSlice, .nilSlice => true
 | .slice e r, .slice e' r' => Nat.beq e e' && Qa6 r r'
 | .nilMap, .nilMap => true
 | .func (.func f) a b, .func (.func g) c d => Nat.beq f g && (Q7s a c && Q7s b d)
 | .nilFunc, .nilFunc => true
 | .nilIface, .nilIface => true
 | .agg a, .agg b => Q7s a b
 | .tuple a, .tuple b => Q7s a b
 | _, _ => false
def Q7s : List PV → List PV → Bool
 | [], [] => true
 | a :: r, b :: s => Qc1 a b && Q7s r s
 | _, _ => false
def Qa6 : List (List PV) → List (List PV) → Bool
 | [], [] => true
 | a :: r, b :: s => Q7s a b && Qa6 r s
 | _, _ => false
end
mutual
theorem Qjz : ∀ (a b : PV), Qc1 a b = true → a = b
 | .bool a, b, h => by cases b <;> simp [Qc1] at h; subst h; rfl
 | .int k n, b, h => by cases b <;> simp [Qc1] at h; obtain ⟨rfl, rfl⟩ := h; rfl
 | .str s, b, h => by cases b <;> simp [Qc1] at h; subst h; rfl
 | .nilPtr, b, h => by cases b <;> simp [Qc1] at h; rfl
 | .nilSlice, b, h => by cases b <;> simp [Qc1] at h; rfl
 | .slice e r, b, h => by
  cases b <;> simp [Qc1] at h
  obtain ⟨rfl, h2⟩ := h
  rw [Qdu r _ h2]
 | .nilMap, b, h => by cases b <;> simp [Qc1] at h; rfl
 | .pmap es, b, h => by cases b <;> simp [Qc1] at h
 | .func fn a c, b, h => by
  cases b <;> cases fn <;> try (simp [Qc1] at h; done)
  rename_i fn' a' c' f
  cases fn' <;> simp [Qc1] at h
  obtain ⟨rfl, h2, h3⟩ := h
  rw [Q1u a _ h2, Q1u c _ h3]
 | .nilFunc, b, h => by cases b <;> simp [Qc1] at h; rfl
 | .iface t v, b, h => by cases b <;> simp [Qc1] at h
 | .nilIface, b, h => by cases b <;> simp [Qc1] at h; rfl
 | .agg a, b, h => by
  cases b <;> simp [Qc1] at h
  rw [Q1u a _ h]
 | .tuple a, b, h => by
  cases b <;> simp [Qc1] at h
  rw [Q1u a _ h]
theorem Q1u : ∀ (a b : List PV), Q7s a b = true → a = b
 | [], b, h => by cases b <;> simp [Q7s] at h; rfl
 | x :: r, b, h => by
  cases b with
  | nil => simp [Q7s] at h
  | cons y s =>
   simp only [Q7s, Bool.and_eq_true] at h
   rw [Qjz x y h.1, Q1u r s h.2]
theorem Qdu : ∀ (a b : List (List PV)), Qa6 a b = true → a = b
 | [], b, h => by cases b <;> simp [Qa6] at h; rfl
 | x :: r, b, h => by
  cases b with
  | nil => simp [Qa6] at h
  | cons y s =>
   simp only [Qa6, Bool.and_eq_true] at h
   rw [Q1u x y h.1, Qdu r s h.2]
end
mutual
def Qet : AV → AV → Bool
 | .p a, .p b => Qc1 a b
 | .ptr a o, .ptr b p => Nat.beq a b && Nat.beq o p
 | .gptr a o, .gptr b p => Nat.beq a b && Nat.beq o p
 | .rptr a, .rptr b => Q7s a b
 | .slice e a o l, .slice e' a' o' l' => Nat.beq e e' && (Nat.beq a a' && (Nat.beq o o' && Nat.beq l l'))
 | .map a, .map b => Nat.beq a b
 | .func (.func f) a b, .func (.func g) c d => Nat.beq f g && (Q9h a c && Q9h b d)
 | .iface t v, .iface t' v' => Nat.beq t t' && Qet v v'
 | .agg a, .agg b => Q9h a b
 | .tuple a, .tuple b => Q9h a b
 | .any, .any => true
 | _, _ => false
def Q9h : List AV → List AV → Bool
 | [], [] => true
 | a :: r, b :: s => Qet a b && Q9h r s
 | _, _ => false
end
mutual
theorem Qkn : ∀ (a b : AV), Qet a b = true → a = b
 | .p a, b, h => by cases b <;> simp [Qet] at h; rw [Qjz _ _ h]
 | .ptr a o, b, h => by cases b <;> simp [Qet] at h; obtain ⟨rfl, rfl⟩ := h; rfl
 | .gptr a o, b, h => by cases b <;> simp [Qet] at h; obtain ⟨rfl, rfl⟩ := h; rfl
 | .rptr a, b, h => by cases b <;> simp [Qet] at h; rw [Q1u _ _ h]
 | .slice e a o l, b, h => by cases b <;> simp [Qet] at h; obtain ⟨rfl, rfl, rfl, rfl⟩ := h; rfl
 | .map a, b, h => by cases b <;> simp [Qet] at h; subst h; rfl
 | .func fn a c, b, h => by
  cases b <;> cases fn <;> try (simp [Qet] at h; done)
  rename_i fn' a' c' f
  cases fn' <;> simp [Qet] at h
  obtain ⟨rfl, h2, h3⟩ := h
  rw [Q32 a _ h2, Q32 c _ h3]
 | .iface t v, b, h => by
  cases b <;> simp [Qet] at h
  obtain ⟨h1, h2⟩ := h
  rw [Qkn v _ h2, h1]
 | .agg a, b, h => by
  cases b <;> simp [Qet] at h
  rw [Q32 a _ h]
 | .tuple a, b, h => by
  cases b <;> simp [Qet] at h
  rw [Q32 a _ h]
 | .any, b, h => by cases b <;> simp [Qet] at h; rfl
theorem Q32 : ∀ (a b : List AV), Q9h a b = true → a = b
 | [], b, h => by cases b <;> simp [Q9h] at h; rfl
 | x :: r, b, h => by
  cases b with
  | nil => simp [Q9h] at h
  | cons y s =>
   simp only [Q9h, Bool.and_eq_true] at h
   rw [Qkn x y h.1, Q32 r s h.2]
end
def Qpg : AObj → AObj → Bool
 | .cells a, .cells b => Q9h a b
 | .strIter s p, .strIter t q => decide (s = t) && Nat.beq p q
 | .dead, .dead => true
 | _, _ => false
theorem Qnd (a b : AObj) (h : Qpg a b = true) : a = b := by
 cases a <;> cases b <;> simp [Qpg] at h
 ·rw [Q32 _ _ h]
 ·obtain ⟨rfl, rfl⟩ := h; rfl
 ·rfl
def Qj2 : List AObj → List AObj → Bool
 | [], _ => true
 | o :: r, o' :: r' => Qpg o o' && Qj2 r r'
 | _ :: _, [] => false
theorem Qfx : ∀ (m H : List AObj), Qj2 m H = true → ∃ rest, H = m ++ rest
 | [], H, _ => ⟨H, rfl⟩
 | o :: r, o' :: r', h => by
  simp only [Qj2, Bool.and_eq_true] at h
  obtain ⟨rest, e⟩ := Qfx r r' h.2
  exact ⟨rest, by rw [Qnd _ _ h.1, e]; rfl⟩
 | _ :: _, [], h => by simp [Qj2] at h
def Qed : Nat → List AObj → AV → List Nat
 | 0, _, _ => []
 | n + 1, H, v => match v with
  | .ptr a _ => a :: refsDo n H (H[a]?)
  | .slice _ a _ _ => a :: refsDo n H (H[a]?)
  | .map a => [a]
  | .func _ a b => a.flatMap (Qed n H) ++ b.flatMap (Qed n H)
  | .iface _ v => Qed n H v
  | .agg cs => cs.flatMap (Qed n H)
  | .tuple cs => cs.flatMap (Qed n H)
  | _ => []
where refsDo (n : Nat) (H : List AObj) : Option AObj → List Nat
 | some (.cells cs) => cs.flatMap (Qed n H)
 | _ => []
end
end Go.Av
