/- Part of the proof of CrossNames: for every input the law returns true; no condition. -/
import Derived.Test.YtnbfaogioomghaaGreatDoorAvBase
namespace Go.Av
noncomputable section
mutual
def Q1g : PV → PV → Bool
 | .bool a, .bool b => a == b
 | .int k n, .int k' n' => decide (k = k') && decide (n = n')
 | .str s, .str t => decide (s = t)
 | .nilPtr, .nilPtr => true
 | .nilSlice, .nilSlice => true
 | .slice0, .slice0 => true
 | .slice e r, .slice e' r' => Nat.beq e e' && Q46 r r'
 | .nilMap, .nilMap => true
 | .func (.func f) a b, .func (.func g) c d => Nat.beq f g && (Q35 a c && Q35 b d)
 | .nilFunc, .nilFunc => true
 | .nilIface, .nilIface => true
 | .agg a, .agg b => Q35 a b
 | .tuple a, .tuple b => Q35 a b
 | _, _ => false
def Q35 : List PV → List PV → Bool
 | [], [] => true
 | a :: r, b :: s => Q1g a b && Q35 r s
 | _, _ => false
def Q46 : List (List PV) → List (List PV) → Bool
 | [], [] => true
 | a :: r, b :: s => Q35 a b && Q46 r s
 | _, _ => false
end
mutual
theorem J3 : ∀ (a b : PV), Q1g a b = true → a = b
 | .bool a, b, h => by cases b <;> simp [Q1g] at h; subst h; rfl
 | .int k n, b, h => by cases b <;> simp [Q1g] at h; obtain ⟨rfl, rfl⟩ := h; rfl
 | .str s, b, h => by cases b <;> simp [Q1g] at h; subst h; rfl
 | .nilPtr, b, h => by cases b <;> simp [Q1g] at h; rfl
 | .nilSlice, b, h => by cases b <;> simp [Q1g] at h; rfl
 | .slice0, b, h => by cases b <;> simp [Q1g] at h; rfl
 | .slice e r, b, h => by
  cases b <;> simp [Q1g] at h;obtain ⟨rfl, h2⟩ := h;rw [Q6e r _ h2]
 | .nilMap, b, h => by cases b <;> simp [Q1g] at h; rfl
 | .pmap es, b, h => by cases b <;> simp [Q1g] at h
 | .func fn a c, b, h => by
  cases b <;> cases fn <;> try (simp [Q1g] at h; done)
  rename_i fn' a' c' f;cases fn' <;> simp [Q1g] at h;obtain ⟨rfl, h2, h3⟩ := h;rw [U6 a _ h2, U6 c _ h3]
 | .nilFunc, b, h => by cases b <;> simp [Q1g] at h; rfl
 | .iface t v, b, h => by cases b <;> simp [Q1g] at h
 | .nilIface, b, h => by cases b <;> simp [Q1g] at h; rfl
 | .agg a, b, h => by
  cases b <;> simp [Q1g] at h;rw [U6 a _ h]
 | .tuple a, b, h => by
  cases b <;> simp [Q1g] at h;rw [U6 a _ h]
theorem U6 : ∀ (a b : List PV), Q35 a b = true → a = b
 | [], b, h => by cases b <;> simp [Q35] at h; rfl
 | x :: r, b, h => by
  cases b with
  | nil => simp [Q35] at h
  | cons y s =>
   simp only [Q35, Lb] at h;rw [J3 x y h.1, U6 r s h.2]
theorem Q6e : ∀ (a b : List (List PV)), Q46 a b = true → a = b
 | [], b, h => by cases b <;> simp [Q46] at h; rfl
 | x :: r, b, h => by
  cases b with
  | nil => simp [Q46] at h
  | cons y s =>
   simp only [Q46, Lb] at h;rw [U6 x y h.1, Q6e r s h.2]
end
mutual
def Q7d : AV → AV → Bool
 | .p a, .p b => Q1g a b
 | .ptr a o, .ptr b p => Nat.beq a b && Nat.beq o p
 | .gptr a o, .gptr b p => Nat.beq a b && Nat.beq o p
 | .rptr a, .rptr b => Q35 a b
 | .slice e a o l, .slice e' a' o' l' => Nat.beq e e' && (Nat.beq a a' && (Nat.beq o o' && Nat.beq l l'))
 | .map a, .map b => Nat.beq a b
 | .func (.func f) a b, .func (.func g) c d => Nat.beq f g && (Q3j a c && Q3j b d)
 | .iface t v, .iface t' v' => Nat.beq t t' && Q7d v v'
 | .agg a, .agg b => Q3j a b
 | .tuple a, .tuple b => Q3j a b
 | .any, .any => true
 | _, _ => false
def Q3j : List AV → List AV → Bool
 | [], [] => true
 | a :: r, b :: s => Q7d a b && Q3j r s
 | _, _ => false
end
mutual
theorem Q88 : ∀ (a b : AV), Q7d a b = true → a = b
 | .p a, b, h => by cases b <;> simp [Q7d] at h; rw [J3 _ _ h]
 | .ptr a o, b, h => by cases b <;> simp [Q7d] at h; obtain ⟨rfl, rfl⟩ := h; rfl
 | .gptr a o, b, h => by cases b <;> simp [Q7d] at h; obtain ⟨rfl, rfl⟩ := h; rfl
 | .rptr a, b, h => by cases b <;> simp [Q7d] at h; rw [U6 _ _ h]
 | .slice e a o l, b, h => by cases b <;> simp [Q7d] at h; obtain ⟨rfl, rfl, rfl, rfl⟩ := h; rfl
 | .map a, b, h => by cases b <;> simp [Q7d] at h; subst h; rfl
 | .func fn a c, b, h => by
  cases b <;> cases fn <;> try (simp [Q7d] at h; done)
  rename_i fn' a' c' f;cases fn' <;> simp [Q7d] at h;obtain ⟨rfl, h2, h3⟩ := h;rw [J5 a _ h2, J5 c _ h3]
 | .iface t v, b, h => by
  cases b <;> simp [Q7d] at h;obtain ⟨h1, h2⟩ := h;rw [Q88 v _ h2, h1]
 | .agg a, b, h => by
  cases b <;> simp [Q7d] at h;rw [J5 a _ h]
 | .tuple a, b, h => by
  cases b <;> simp [Q7d] at h;rw [J5 a _ h]
 | .any, b, h => by cases b <;> simp [Q7d] at h; rfl
theorem J5 : ∀ (a b : List AV), Q3j a b = true → a = b
 | [], b, h => by cases b <;> simp [Q3j] at h; rfl
 | x :: r, b, h => by
  cases b with
  | nil => simp [Q3j] at h
  | cons y s =>
   simp only [Q3j, Lb] at h;rw [Q88 x y h.1, J5 r s h.2]
end
def Qap : List (PV × AV) → List (PV × AV) → Bool
 | [], [] => true
 | (k, v) :: r, (k', v') :: s => Q1g k k' && (Q7d v v' && Qap r s)
 | _, _ => false
theorem Q8u : ∀ (a b : List (PV × AV)), Qap a b = true → a = b
 | [], [], _ => rfl
 | (k, v) :: r, (k', v') :: s, h => by
  simp only [Qap, Lb] at h;rw [J3 k k' h.1, Q88 v v' h.2.1, Q8u r s h.2.2]
 | [], _ :: _, h => by simp [Qap] at h
 | _ :: _, [], h => by simp [Qap] at h
def Qg5 : AObj → AObj → Bool
 | .map a, .map b => Qap a b
 | .cells a, .cells b => Q3j a b
 | .strIter s p, .strIter t q => decide (s = t) && Nat.beq p q
 | .dead, .dead => true
 | _, _ => false
theorem Qeh (a b : AObj) (h : Qg5 a b = true) : a = b := by
 cases a <;> cases b <;> simp [Qg5] at h
 ·rw [J5 _ _ h]
 ·rw [Q8u _ _ h]
 ·obtain ⟨rfl, rfl⟩ := h; rfl
 rfl
def Qcm : List AObj → List AObj → Bool
 | [], _ => true
 | o :: r, o' :: r' => Qg5 o o' && Qcm r r'
 | _ :: _, [] => false
theorem Q9j : ∀ (m H : List AObj), Qcm m H = true → ∃ rest, H = m ++ rest
 | [], H, _ => ⟨H, rfl⟩
 | o :: r, o' :: r', h => by
  simp only [Qcm, Lb] at h;obtain ⟨rest, e⟩ := Q9j r r' h.2;exact ⟨rest, by rw [Qeh _ _ h.1, e]; rfl⟩
 | _ :: _, [], h => by simp [Qcm] at h
def Q7i (g : AV → List Nat) : Option AObj → List Nat
 | some (.cells cs) => cs.flatMap g
 | some (.map es) => es.flatMap fun q => g q.2
 | _ => []
def Q5i : Nat → List AObj → AV → List Nat
 | 0, _, _ => []
 | n + 1, H, v => match v with
  | .ptr a _ => a :: Q7i (Q5i n H) (H[a]?)
  | .slice _ a _ _ => a :: Q7i (Q5i n H) (H[a]?)
  | .map a => a :: Q7i (Q5i n H) (H[a]?)
  | .func _ a b => a.flatMap (Q5i n H) ++ b.flatMap (Q5i n H)
  | .iface _ v => Q5i n H v
  | .agg cs => cs.flatMap (Q5i n H)
  | .tuple cs => cs.flatMap (Q5i n H)
  | _ => []
end
end Go.Av
