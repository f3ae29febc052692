/- An abstract machine for the modelled code, and what its runs say of real calls. Part of a proof of a given statement: for every input the law returns true and the arguments read as before; no condition beyond the given row. -/
import Derived.Test.YtkemhhfbpniioaaGreatDoorAvBase
namespace Go.Av
noncomputable section
mutual
def Qd8 : PV → PV → Bool
 | .bool a, .bool b => a == b
 | .int k n, .int k' n' => decide (k = k') && decide (n = n')
 | .str s, .str t => decide (s = t)
 | .nilPtr, .nilPtr => true
 | .nilSlice, .nilSlice => true
 | .slice e r, .slice e' r' => Nat.beq e e' && Qb5 r r'
 | .nilMap, .nilMap => true
 | .func (.func f) a b, .func (.func g) c d => Nat.beq f g && (Q95 a c && Q95 b d)
 | .nilFunc, .nilFunc => true
 | .nilIface, .nilIface => true
 | .agg a, .agg b => Q95 a b
 | .tuple a, .tuple b => Q95 a b
 | _, _ => false
def Q95 : List PV → List PV → Bool
 | [], [] => true
 | a :: r, b :: s => Qd8 a b && Q95 r s
 | _, _ => false
def Qb5 : List (List PV) → List (List PV) → Bool
 | [], [] => true
 | a :: r, b :: s => Q95 a b && Qb5 r s
 | _, _ => false
end
mutual
theorem Qk2 : ∀ (a b : PV), Qd8 a b = true → a = b
 | .bool a, b, h => by cases b <;> simp [Qd8] at h; subst h; rfl
 | .int k n, b, h => by cases b <;> simp [Qd8] at h; obtain ⟨rfl, rfl⟩ := h; rfl
 | .str s, b, h => by cases b <;> simp [Qd8] at h; subst h; rfl
 | .nilPtr, b, h => by cases b <;> simp [Qd8] at h; rfl
 | .nilSlice, b, h => by cases b <;> simp [Qd8] at h; rfl
 | .slice e r, b, h => by
  cases b <;> simp [Qd8] at h
  obtain ⟨rfl, h2⟩ := h
  rw [Qdz r _ h2]
 | .nilMap, b, h => by cases b <;> simp [Qd8] at h; rfl
 | .pmap es, b, h => by cases b <;> simp [Qd8] at h
 | .func fn a c, b, h => by
  cases b <;> cases fn <;> try (simp [Qd8] at h; done)
  rename_i fn' a' c' f
  cases fn' <;> simp [Qd8] at h
  obtain ⟨rfl, h2, h3⟩ := h
  rw [Q25 a _ h2, Q25 c _ h3]
 | .nilFunc, b, h => by cases b <;> simp [Qd8] at h; rfl
 | .iface t v, b, h => by cases b <;> simp [Qd8] at h
 | .nilIface, b, h => by cases b <;> simp [Qd8] at h; rfl
 | .agg a, b, h => by
  cases b <;> simp [Qd8] at h
  rw [Q25 a _ h]
 | .tuple a, b, h => by
  cases b <;> simp [Qd8] at h
  rw [Q25 a _ h]
theorem Q25 : ∀ (a b : List PV), Q95 a b = true → a = b
 | [], b, h => by cases b <;> simp [Q95] at h; rfl
 | x :: r, b, h => by
  cases b with
  | nil => simp [Q95] at h
  | cons y s =>
   simp only [Q95, Bool.and_eq_true] at h
   rw [Qk2 x y h.1, Q25 r s h.2]
theorem Qdz : ∀ (a b : List (List PV)), Qb5 a b = true → a = b
 | [], b, h => by cases b <;> simp [Qb5] at h; rfl
 | x :: r, b, h => by
  cases b with
  | nil => simp [Qb5] at h
  | cons y s =>
   simp only [Qb5, Bool.and_eq_true] at h
   rw [Q25 x y h.1, Qdz r s h.2]
end
mutual
def Qfg : AV → AV → Bool
 | .p a, .p b => Qd8 a b
 | .ptr a o, .ptr b p => Nat.beq a b && Nat.beq o p
 | .gptr a o, .gptr b p => Nat.beq a b && Nat.beq o p
 | .rptr a, .rptr b => Q95 a b
 | .slice e a o l, .slice e' a' o' l' => Nat.beq e e' && (Nat.beq a a' && (Nat.beq o o' && Nat.beq l l'))
 | .map a, .map b => Nat.beq a b
 | .func (.func f) a b, .func (.func g) c d => Nat.beq f g && (Qak a c && Qak b d)
 | .iface t v, .iface t' v' => Nat.beq t t' && Qfg v v'
 | .agg a, .agg b => Qak a b
 | .tuple a, .tuple b => Qak a b
 | .any, .any => true
 | _, _ => false
def Qak : List AV → List AV → Bool
 | [], [] => true
 | a :: r, b :: s => Qfg a b && Qak r s
 | _, _ => false
end
mutual
theorem Qkq : ∀ (a b : AV), Qfg a b = true → a = b
 | .p a, b, h => by cases b <;> simp [Qfg] at h; rw [Qk2 _ _ h]
 | .ptr a o, b, h => by cases b <;> simp [Qfg] at h; obtain ⟨rfl, rfl⟩ := h; rfl
 | .gptr a o, b, h => by cases b <;> simp [Qfg] at h; obtain ⟨rfl, rfl⟩ := h; rfl
 | .rptr a, b, h => by cases b <;> simp [Qfg] at h; rw [Q25 _ _ h]
 | .slice e a o l, b, h => by cases b <;> simp [Qfg] at h; obtain ⟨rfl, rfl, rfl, rfl⟩ := h; rfl
 | .map a, b, h => by cases b <;> simp [Qfg] at h; subst h; rfl
 | .func fn a c, b, h => by
  cases b <;> cases fn <;> try (simp [Qfg] at h; done)
  rename_i fn' a' c' f
  cases fn' <;> simp [Qfg] at h
  obtain ⟨rfl, h2, h3⟩ := h
  rw [Q3y a _ h2, Q3y c _ h3]
 | .iface t v, b, h => by
  cases b <;> simp [Qfg] at h
  obtain ⟨h1, h2⟩ := h
  rw [Qkq v _ h2, h1]
 | .agg a, b, h => by
  cases b <;> simp [Qfg] at h
  rw [Q3y a _ h]
 | .tuple a, b, h => by
  cases b <;> simp [Qfg] at h
  rw [Q3y a _ h]
 | .any, b, h => by cases b <;> simp [Qfg] at h; rfl
theorem Q3y : ∀ (a b : List AV), Qak a b = true → a = b
 | [], b, h => by cases b <;> simp [Qak] at h; rfl
 | x :: r, b, h => by
  cases b with
  | nil => simp [Qak] at h
  | cons y s =>
   simp only [Qak, Bool.and_eq_true] at h
   rw [Qkq x y h.1, Q3y r s h.2]
end
def Qrh : AObj → AObj → Bool
 | .cells a, .cells b => Qak a b
 | .strIter s p, .strIter t q => decide (s = t) && Nat.beq p q
 | .dead, .dead => true
 | _, _ => false
theorem Qo0 (a b : AObj) (h : Qrh a b = true) : a = b := by
 cases a <;> cases b <;> simp [Qrh] at h
 ·rw [Q3y _ _ h]
 ·obtain ⟨rfl, rfl⟩ := h; rfl
 ·rfl
def Qlq : List AObj → List AObj → Bool
 | [], _ => true
 | o :: r, o' :: r' => Qrh o o' && Qlq r r'
 | _ :: _, [] => false
theorem Qhd : ∀ (m H : List AObj), Qlq m H = true → ∃ rest, H = m ++ rest
 | [], H, _ => ⟨H, rfl⟩
 | o :: r, o' :: r', h => by
  simp only [Qlq, Bool.and_eq_true] at h
  obtain ⟨rest, e⟩ := Qhd r r' h.2
  exact ⟨rest, by rw [Qo0 _ _ h.1, e]; rfl⟩
 | _ :: _, [], h => by simp [Qlq] at h
def Qfv : Nat → List AObj → AV → List Nat
 | 0, _, _ => []
 | n + 1, H, v => match v with
  | .ptr a _ => a :: refsDo n H (H[a]?)
  | .slice _ a _ _ => a :: refsDo n H (H[a]?)
  | .map a => [a]
  | .func _ a b => a.flatMap (Qfv n H) ++ b.flatMap (Qfv n H)
  | .iface _ v => Qfv n H v
  | .agg cs => cs.flatMap (Qfv n H)
  | .tuple cs => cs.flatMap (Qfv n H)
  | _ => []
where refsDo (n : Nat) (H : List AObj) : Option AObj → List Nat
 | some (.cells cs) => cs.flatMap (Qfv n H)
 | _ => []
end
end Go.Av
