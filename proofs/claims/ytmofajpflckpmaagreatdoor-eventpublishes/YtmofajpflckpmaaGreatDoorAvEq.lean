/- An abstract machine for the modelled code, and what its runs say of real calls. Part of a proof of a given statement: for every input the law returns true and the arguments read as before; no condition beyond the given row. -/
import Derived.Test.YtmofajpflckpmaaGreatDoorAvBase
namespace Go.Av
noncomputable section
mutual
def Q4n : PV → PV → Bool
 | .bool a, .bool b => a == b
 | .int k n, .int k' n' => decide (k = k') && decide (n = n')
 | .str s, .str t => decide (s = t)
 | .nilPtr, .nilPtr => true
 | .nilSlice, .nilSlice => true
 | .slice0, .slice0 => true
 | .slice e r, .slice e' r' => Nat.beq e e' && Q50 r r'
 | .nilMap, .nilMap => true
 | .func (.func f) a b, .func (.func g) c d => Nat.beq f g && (Q31 a c && Q31 b d)
 | .nilFunc, .nilFunc => true
 | .nilIface, .nilIface => true
 | .agg a, .agg b => Q31 a b
 | .tuple a, .tuple b => Q31 a b
 | _, _ => false
def Q31 : List PV → List PV → Bool
 | [], [] => true
 | a :: r, b :: s => Q4n a b && Q31 r s
 | _, _ => false
def Q50 : List (List PV) → List (List PV) → Bool
 | [], [] => true
 | a :: r, b :: s => Q31 a b && Q50 r s
 | _, _ => false
end
mutual
theorem Q88 : ∀ (a b : PV), Q4n a b = true → a = b
 | .bool a, b, h => by cases b <;> simp [Q4n] at h; subst h; rfl
 | .int k n, b, h => by cases b <;> simp [Q4n] at h; obtain ⟨rfl, rfl⟩ := h; rfl
 | .str s, b, h => by cases b <;> simp [Q4n] at h; subst h; rfl
 | .nilPtr, b, h => by cases b <;> simp [Q4n] at h; rfl
 | .nilSlice, b, h => by cases b <;> simp [Q4n] at h; rfl
 | .slice0, b, h => by cases b <;> simp [Q4n] at h; rfl
 | .slice e r, b, h => by
  cases b <;> simp [Q4n] at h
  obtain ⟨rfl, h2⟩ := h
  rw [Q6s r _ h2]
 | .nilMap, b, h => by cases b <;> simp [Q4n] at h; rfl
 | .pmap es, b, h => by cases b <;> simp [Q4n] at h
 | .func fn a c, b, h => by
  cases b <;> cases fn <;> try (simp [Q4n] at h; done)
  rename_i fn' a' c' f
  cases fn' <;> simp [Q4n] at h
  obtain ⟨rfl, h2, h3⟩ := h
  rw [Je a _ h2, Je c _ h3]
 | .nilFunc, b, h => by cases b <;> simp [Q4n] at h; rfl
 | .iface t v, b, h => by cases b <;> simp [Q4n] at h
 | .nilIface, b, h => by cases b <;> simp [Q4n] at h; rfl
 | .agg a, b, h => by
  cases b <;> simp [Q4n] at h
  rw [Je a _ h]
 | .tuple a, b, h => by
  cases b <;> simp [Q4n] at h
  rw [Je a _ h]
theorem Je : ∀ (a b : List PV), Q31 a b = true → a = b
 | [], b, h => by cases b <;> simp [Q31] at h; rfl
 | x :: r, b, h => by
  cases b with
  | nil => simp [Q31] at h
  | cons y s =>
   simp only [Q31, Bool.and_eq_true] at h
   rw [Q88 x y h.1, Je r s h.2]
theorem Q6s : ∀ (a b : List (List PV)), Q50 a b = true → a = b
 | [], b, h => by cases b <;> simp [Q50] at h; rfl
 | x :: r, b, h => by
  cases b with
  | nil => simp [Q50] at h
  | cons y s =>
   simp only [Q50, Bool.and_eq_true] at h
   rw [Je x y h.1, Q6s r s h.2]
end
mutual
def Q86 : AV → AV → Bool
 | .p a, .p b => Q4n a b
 | .ptr a o, .ptr b p => Nat.beq a b && Nat.beq o p
 | .gptr a o, .gptr b p => Nat.beq a b && Nat.beq o p
 | .rptr a, .rptr b => Q31 a b
 | .slice e a o l, .slice e' a' o' l' => Nat.beq e e' && (Nat.beq a a' && (Nat.beq o o' && Nat.beq l l'))
 | .map a, .map b => Nat.beq a b
 | .func (.func f) a b, .func (.func g) c d => Nat.beq f g && (Q4e a c && Q4e b d)
 | .iface t v, .iface t' v' => Nat.beq t t' && Q86 v v'
 | .agg a, .agg b => Q4e a b
 | .tuple a, .tuple b => Q4e a b
 | .any, .any => true
 | _, _ => false
def Q4e : List AV → List AV → Bool
 | [], [] => true
 | a :: r, b :: s => Q86 a b && Q4e r s
 | _, _ => false
end
mutual
theorem Q8a : ∀ (a b : AV), Q86 a b = true → a = b
 | .p a, b, h => by cases b <;> simp [Q86] at h; rw [Q88 _ _ h]
 | .ptr a o, b, h => by cases b <;> simp [Q86] at h; obtain ⟨rfl, rfl⟩ := h; rfl
 | .gptr a o, b, h => by cases b <;> simp [Q86] at h; obtain ⟨rfl, rfl⟩ := h; rfl
 | .rptr a, b, h => by cases b <;> simp [Q86] at h; rw [Je _ _ h]
 | .slice e a o l, b, h => by cases b <;> simp [Q86] at h; obtain ⟨rfl, rfl, rfl, rfl⟩ := h; rfl
 | .map a, b, h => by cases b <;> simp [Q86] at h; subst h; rfl
 | .func fn a c, b, h => by
  cases b <;> cases fn <;> try (simp [Q86] at h; done)
  rename_i fn' a' c' f
  cases fn' <;> simp [Q86] at h
  obtain ⟨rfl, h2, h3⟩ := h
  rw [Gd a _ h2, Gd c _ h3]
 | .iface t v, b, h => by
  cases b <;> simp [Q86] at h
  obtain ⟨h1, h2⟩ := h
  rw [Q8a v _ h2, h1]
 | .agg a, b, h => by
  cases b <;> simp [Q86] at h
  rw [Gd a _ h]
 | .tuple a, b, h => by
  cases b <;> simp [Q86] at h
  rw [Gd a _ h]
 | .any, b, h => by cases b <;> simp [Q86] at h; rfl
theorem Gd : ∀ (a b : List AV), Q4e a b = true → a = b
 | [], b, h => by cases b <;> simp [Q4e] at h; rfl
 | x :: r, b, h => by
  cases b with
  | nil => simp [Q4e] at h
  | cons y s =>
   simp only [Q4e, Bool.and_eq_true] at h
   rw [Q8a x y h.1, Gd r s h.2]
end
def Qak : List (PV × AV) → List (PV × AV) → Bool
 | [], [] => true
 | (k, v) :: r, (k', v') :: s => Q4n k k' && (Q86 v v' && Qak r s)
 | _, _ => false
theorem Q9f : ∀ (a b : List (PV × AV)), Qak a b = true → a = b
 | [], [], _ => rfl
 | (k, v) :: r, (k', v') :: s, h => by
  simp only [Qak, Bool.and_eq_true] at h
  rw [Q88 k k' h.1, Q8a v v' h.2.1, Q9f r s h.2.2]
 | [], _ :: _, h => by simp [Qak] at h
 | _ :: _, [], h => by simp [Qak] at h
def Qh1 : AObj → AObj → Bool
 | .map a, .map b => Qak a b
 | .cells a, .cells b => Q4e a b
 | .strIter s p, .strIter t q => decide (s = t) && Nat.beq p q
 | .dead, .dead => true
 | _, _ => false
theorem Qej (a b : AObj) (h : Qh1 a b = true) : a = b := by
 cases a <;> cases b <;> simp [Qh1] at h
 ·rw [Gd _ _ h]
 ·rw [Q9f _ _ h]
 ·obtain ⟨rfl, rfl⟩ := h; rfl
 ·rfl
def Qc8 : List AObj → List AObj → Bool
 | [], _ => true
 | o :: r, o' :: r' => Qh1 o o' && Qc8 r r'
 | _ :: _, [] => false
theorem Q9q : ∀ (m H : List AObj), Qc8 m H = true → ∃ rest, H = m ++ rest
 | [], H, _ => ⟨H, rfl⟩
 | o :: r, o' :: r', h => by
  simp only [Qc8, Bool.and_eq_true] at h
  obtain ⟨rest, e⟩ := Q9q r r' h.2
  exact ⟨rest, by rw [Qej _ _ h.1, e]; rfl⟩
 | _ :: _, [], h => by simp [Qc8] at h
def Q7w : Nat → List AObj → AV → List Nat
 | 0, _, _ => []
 | n + 1, H, v => match v with
  | .ptr a _ => a :: refsDo n H (H[a]?)
  | .slice _ a _ _ => a :: refsDo n H (H[a]?)
  | .map a => a :: refsDo n H (H[a]?)
  | .func _ a b => a.flatMap (Q7w n H) ++ b.flatMap (Q7w n H)
  | .iface _ v => Q7w n H v
  | .agg cs => cs.flatMap (Q7w n H)
  | .tuple cs => cs.flatMap (Q7w n H)
  | _ => []
where refsDo (n : Nat) (H : List AObj) : Option AObj → List Nat
 | some (.cells cs) => cs.flatMap (Q7w n H)
 | some (.map es) => es.flatMap fun q => Q7w n H q.2
 | _ => []
end
end Go.Av
