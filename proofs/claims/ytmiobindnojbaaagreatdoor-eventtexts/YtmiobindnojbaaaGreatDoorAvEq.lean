/- An abstract machine for the modelled code, and what its runs say of real calls. Part of a proof of a given statement: for every input the law returns true and the arguments read as before; no condition beyond the given row. -/
import Derived.Test.YtmiobindnojbaaaGreatDoorAvBase
namespace Go.Av
noncomputable section
mutual
def Q5s : PV → PV → Bool
 | .bool a, .bool b => a == b
 | .int k n, .int k' n' => decide (k = k') && decide (n = n')
 | .str s, .str t => decide (s = t)
 | .nilPtr, .nilPtr => true
 | .nilSlice, .nilSlice => true
 | .slice0, .slice0 => true
 | .slice e r, .slice e' r' => Nat.beq e e' && Q5t r r'
 | .nilMap, .nilMap => true
 | .func (.func f) a b, .func (.func g) c d => Nat.beq f g && (Q49 a c && Q49 b d)
 | .nilFunc, .nilFunc => true
 | .nilIface, .nilIface => true
 | .agg a, .agg b => Q49 a b
 | .tuple a, .tuple b => Q49 a b
 | _, _ => false
def Q49 : List PV → List PV → Bool
 | [], [] => true
 | a :: r, b :: s => Q5s a b && Q49 r s
 | _, _ => false
def Q5t : List (List PV) → List (List PV) → Bool
 | [], [] => true
 | a :: r, b :: s => Q49 a b && Q5t r s
 | _, _ => false
end
mutual
theorem Q9h : ∀ (a b : PV), Q5s a b = true → a = b
 | .bool a, b, h => by cases b <;> simp [Q5s] at h; subst h; rfl
 | .int k n, b, h => by cases b <;> simp [Q5s] at h; obtain ⟨rfl, rfl⟩ := h; rfl
 | .str s, b, h => by cases b <;> simp [Q5s] at h; subst h; rfl
 | .nilPtr, b, h => by cases b <;> simp [Q5s] at h; rfl
 | .nilSlice, b, h => by cases b <;> simp [Q5s] at h; rfl
 | .slice0, b, h => by cases b <;> simp [Q5s] at h; rfl
 | .slice e r, b, h => by
  cases b <;> simp [Q5s] at h
  obtain ⟨rfl, h2⟩ := h
  rw [Q7l r _ h2]
 | .nilMap, b, h => by cases b <;> simp [Q5s] at h; rfl
 | .pmap es, b, h => by cases b <;> simp [Q5s] at h
 | .func fn a c, b, h => by
  cases b <;> cases fn <;> try (simp [Q5s] at h; done)
  rename_i fn' a' c' f
  cases fn' <;> simp [Q5s] at h
  obtain ⟨rfl, h2, h3⟩ := h
  rw [Jy a _ h2, Jy c _ h3]
 | .nilFunc, b, h => by cases b <;> simp [Q5s] at h; rfl
 | .iface t v, b, h => by cases b <;> simp [Q5s] at h
 | .nilIface, b, h => by cases b <;> simp [Q5s] at h; rfl
 | .agg a, b, h => by
  cases b <;> simp [Q5s] at h
  rw [Jy a _ h]
 | .tuple a, b, h => by
  cases b <;> simp [Q5s] at h
  rw [Jy a _ h]
theorem Jy : ∀ (a b : List PV), Q49 a b = true → a = b
 | [], b, h => by cases b <;> simp [Q49] at h; rfl
 | x :: r, b, h => by
  cases b with
  | nil => simp [Q49] at h
  | cons y s =>
   simp only [Q49, Bool.and_eq_true] at h
   rw [Q9h x y h.1, Jy r s h.2]
theorem Q7l : ∀ (a b : List (List PV)), Q5t a b = true → a = b
 | [], b, h => by cases b <;> simp [Q5t] at h; rfl
 | x :: r, b, h => by
  cases b with
  | nil => simp [Q5t] at h
  | cons y s =>
   simp only [Q5t, Bool.and_eq_true] at h
   rw [Jy x y h.1, Q7l r s h.2]
end
mutual
def Q97 : AV → AV → Bool
 | .p a, .p b => Q5s a b
 | .ptr a o, .ptr b p => Nat.beq a b && Nat.beq o p
 | .gptr a o, .gptr b p => Nat.beq a b && Nat.beq o p
 | .rptr a, .rptr b => Q49 a b
 | .slice e a o l, .slice e' a' o' l' => Nat.beq e e' && (Nat.beq a a' && (Nat.beq o o' && Nat.beq l l'))
 | .map a, .map b => Nat.beq a b
 | .func (.func f) a b, .func (.func g) c d => Nat.beq f g && (Q54 a c && Q54 b d)
 | .iface t v, .iface t' v' => Nat.beq t t' && Q97 v v'
 | .agg a, .agg b => Q54 a b
 | .tuple a, .tuple b => Q54 a b
 | .any, .any => true
 | _, _ => false
def Q54 : List AV → List AV → Bool
 | [], [] => true
 | a :: r, b :: s => Q97 a b && Q54 r s
 | _, _ => false
end
mutual
theorem Q9x : ∀ (a b : AV), Q97 a b = true → a = b
 | .p a, b, h => by cases b <;> simp [Q97] at h; rw [Q9h _ _ h]
 | .ptr a o, b, h => by cases b <;> simp [Q97] at h; obtain ⟨rfl, rfl⟩ := h; rfl
 | .gptr a o, b, h => by cases b <;> simp [Q97] at h; obtain ⟨rfl, rfl⟩ := h; rfl
 | .rptr a, b, h => by cases b <;> simp [Q97] at h; rw [Jy _ _ h]
 | .slice e a o l, b, h => by cases b <;> simp [Q97] at h; obtain ⟨rfl, rfl, rfl, rfl⟩ := h; rfl
 | .map a, b, h => by cases b <;> simp [Q97] at h; subst h; rfl
 | .func fn a c, b, h => by
  cases b <;> cases fn <;> try (simp [Q97] at h; done)
  rename_i fn' a' c' f
  cases fn' <;> simp [Q97] at h
  obtain ⟨rfl, h2, h3⟩ := h
  rw [Q09 a _ h2, Q09 c _ h3]
 | .iface t v, b, h => by
  cases b <;> simp [Q97] at h
  obtain ⟨h1, h2⟩ := h
  rw [Q9x v _ h2, h1]
 | .agg a, b, h => by
  cases b <;> simp [Q97] at h
  rw [Q09 a _ h]
 | .tuple a, b, h => by
  cases b <;> simp [Q97] at h
  rw [Q09 a _ h]
 | .any, b, h => by cases b <;> simp [Q97] at h; rfl
theorem Q09 : ∀ (a b : List AV), Q54 a b = true → a = b
 | [], b, h => by cases b <;> simp [Q54] at h; rfl
 | x :: r, b, h => by
  cases b with
  | nil => simp [Q54] at h
  | cons y s =>
   simp only [Q54, Bool.and_eq_true] at h
   rw [Q9x x y h.1, Q09 r s h.2]
end
def Qbr : List (PV × AV) → List (PV × AV) → Bool
 | [], [] => true
 | (k, v) :: r, (k', v') :: s => Q5s k k' && (Q97 v v' && Qbr r s)
 | _, _ => false
theorem Qau : ∀ (a b : List (PV × AV)), Qbr a b = true → a = b
 | [], [], _ => rfl
 | (k, v) :: r, (k', v') :: s, h => by
  simp only [Qbr, Bool.and_eq_true] at h
  rw [Q9h k k' h.1, Q9x v v' h.2.1, Qau r s h.2.2]
 | [], _ :: _, h => by simp [Qbr] at h
 | _ :: _, [], h => by simp [Qbr] at h
def Qi3 : AObj → AObj → Bool
 | .map a, .map b => Qbr a b
 | .cells a, .cells b => Q54 a b
 | .strIter s p, .strIter t q => decide (s = t) && Nat.beq p q
 | .dead, .dead => true
 | _, _ => false
theorem Qfg (a b : AObj) (h : Qi3 a b = true) : a = b := by
 cases a <;> cases b <;> simp [Qi3] at h
 ·rw [Q09 _ _ h]
 ·rw [Qau _ _ h]
 ·obtain ⟨rfl, rfl⟩ := h; rfl
 ·rfl
def Qd7 : List AObj → List AObj → Bool
 | [], _ => true
 | o :: r, o' :: r' => Qi3 o o' && Qd7 r r'
 | _ :: _, [] => false
theorem Qat : ∀ (m H : List AObj), Qd7 m H = true → ∃ rest, H = m ++ rest
 | [], H, _ => ⟨H, rfl⟩
 | o :: r, o' :: r', h => by
  simp only [Qd7, Bool.and_eq_true] at h
  obtain ⟨rest, e⟩ := Qat r r' h.2
  exact ⟨rest, by rw [Qfg _ _ h.1, e]; rfl⟩
 | _ :: _, [], h => by simp [Qd7] at h
def Q8b : Nat → List AObj → AV → List Nat
 | 0, _, _ => []
 | n + 1, H, v => match v with
  | .ptr a _ => a :: refsDo n H (H[a]?)
  | .slice _ a _ _ => a :: refsDo n H (H[a]?)
  | .map a => a :: refsDo n H (H[a]?)
  | .func _ a b => a.flatMap (Q8b n H) ++ b.flatMap (Q8b n H)
  | .iface _ v => Q8b n H v
  | .agg cs => cs.flatMap (Q8b n H)
  | .tuple cs => cs.flatMap (Q8b n H)
  | _ => []
where refsDo (n : Nat) (H : List AObj) : Option AObj → List Nat
 | some (.cells cs) => cs.flatMap (Q8b n H)
 | some (.map es) => es.flatMap fun q => Q8b n H q.2
 | _ => []
end
end Go.Av
