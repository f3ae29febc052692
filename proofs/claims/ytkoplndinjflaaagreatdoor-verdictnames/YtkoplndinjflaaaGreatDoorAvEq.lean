/- Part of the proof of VerdictNames: for every input the law returns true; no condition. -/
import Derived.Test.YtkoplndinjflaaaGreatDoorAvBase
namespace Go.Av
noncomputable section
mutual
def Gc : PV → PV → Bool
 | .bool a, .bool b => a == b
 | .int k n, .int k' n' => decide (k = k') && decide (n = n')
 | .str s, .str t => decide (s = t)
 | .nilPtr, .nilPtr => true
 | .nilSlice, .nilSlice => true
 | .slice0, .slice0 => true
 | .slice e r, .slice e' r' => Nat.beq e e' && Gd r r'
 | .nilMap, .nilMap => true
 | .func (.func f) a b, .func (.func g) c d => Nat.beq f g && (Uk a c && Uk b d)
 | .nilFunc, .nilFunc => true
 | .nilIface, .nilIface => true
 | .agg a, .agg b => Uk a b
 | .tuple a, .tuple b => Uk a b
 | _, _ => false
def Uk : List PV → List PV → Bool
 | [], [] => true
 | a :: r, b :: s => Gc a b && Uk r s
 | _, _ => false
def Gd : List (List PV) → List (List PV) → Bool
 | [], [] => true
 | a :: r, b :: s => Uk a b && Gd r s
 | _, _ => false
end
mutual
theorem Q24 : ∀ (a b : PV), Gc a b = true → a = b
 | .bool a, b, h => by cases b <;> simp [Gc] at h; subst h; rfl
 | .int k n, b, h => by cases b <;> simp [Gc] at h; obtain ⟨rfl, rfl⟩ := h; rfl
 | .str s, b, h => by cases b <;> simp [Gc] at h; subst h; rfl
 | .nilPtr, b, h => by cases b <;> simp [Gc] at h; rfl
 | .nilSlice, b, h => by cases b <;> simp [Gc] at h; rfl
 | .slice0, b, h => by cases b <;> simp [Gc] at h; rfl
 | .slice e r, b, h => by
  cases b <;> simp [Gc] at h;obtain ⟨rfl, h2⟩ := h;rw [Q0z r _ h2]
 | .nilMap, b, h => by cases b <;> simp [Gc] at h; rfl
 | .pmap es, b, h => by cases b <;> simp [Gc] at h
 | .func fn a c, b, h => by
  cases b <;> cases fn <;> try (simp [Gc] at h; done)
  rename_i fn' a' c' f;cases fn' <;> simp [Gc] at h;obtain ⟨rfl, h2, h3⟩ := h;rw [X2 a _ h2, X2 c _ h3]
 | .nilFunc, b, h => by cases b <;> simp [Gc] at h; rfl
 | .iface t v, b, h => by cases b <;> simp [Gc] at h
 | .nilIface, b, h => by cases b <;> simp [Gc] at h; rfl
 | .agg a, b, h => by
  cases b <;> simp [Gc] at h;rw [X2 a _ h]
 | .tuple a, b, h => by
  cases b <;> simp [Gc] at h;rw [X2 a _ h]
theorem X2 : ∀ (a b : List PV), Uk a b = true → a = b
 | [], b, h => by cases b <;> simp [Uk] at h; rfl
 | x :: r, b, h => by
  cases b with
  | nil => simp [Uk] at h
  | cons y s =>
   simp only [Uk, Lb] at h;rw [Q24 x y h.1, X2 r s h.2]
theorem Q0z : ∀ (a b : List (List PV)), Gd a b = true → a = b
 | [], b, h => by cases b <;> simp [Gd] at h; rfl
 | x :: r, b, h => by
  cases b with
  | nil => simp [Gd] at h
  | cons y s =>
   simp only [Gd, Lb] at h;rw [X2 x y h.1, Q0z r s h.2]
end
mutual
def Q20 : AV → AV → Bool
 | .p a, .p b => Gc a b
 | .ptr a o, .ptr b p => Nat.beq a b && Nat.beq o p
 | .gptr a o, .gptr b p => Nat.beq a b && Nat.beq o p
 | .rptr a, .rptr b => Uk a b
 | .slice e a o l, .slice e' a' o' l' => Nat.beq e e' && (Nat.beq a a' && (Nat.beq o o' && Nat.beq l l'))
 | .map a, .map b => Nat.beq a b
 | .func (.func f) a b, .func (.func g) c d => Nat.beq f g && (Jw a c && Jw b d)
 | .iface t v, .iface t' v' => Nat.beq t t' && Q20 v v'
 | .agg a, .agg b => Jw a b
 | .tuple a, .tuple b => Jw a b
 | .any, .any => true
 | _, _ => false
def Jw : List AV → List AV → Bool
 | [], [] => true
 | a :: r, b :: s => Q20 a b && Jw r s
 | _, _ => false
end
mutual
theorem Q2g : ∀ (a b : AV), Q20 a b = true → a = b
 | .p a, b, h => by cases b <;> simp [Q20] at h; rw [Q24 _ _ h]
 | .ptr a o, b, h => by cases b <;> simp [Q20] at h; obtain ⟨rfl, rfl⟩ := h; rfl
 | .gptr a o, b, h => by cases b <;> simp [Q20] at h; obtain ⟨rfl, rfl⟩ := h; rfl
 | .rptr a, b, h => by cases b <;> simp [Q20] at h; rw [X2 _ _ h]
 | .slice e a o l, b, h => by cases b <;> simp [Q20] at h; obtain ⟨rfl, rfl, rfl, rfl⟩ := h; rfl
 | .map a, b, h => by cases b <;> simp [Q20] at h; subst h; rfl
 | .func fn a c, b, h => by
  cases b <;> cases fn <;> try (simp [Q20] at h; done)
  rename_i fn' a' c' f;cases fn' <;> simp [Q20] at h;obtain ⟨rfl, h2, h3⟩ := h;rw [Xt a _ h2, Xt c _ h3]
 | .iface t v, b, h => by
  cases b <;> simp [Q20] at h;obtain ⟨h1, h2⟩ := h;rw [Q2g v _ h2, h1]
 | .agg a, b, h => by
  cases b <;> simp [Q20] at h;rw [Xt a _ h]
 | .tuple a, b, h => by
  cases b <;> simp [Q20] at h;rw [Xt a _ h]
 | .any, b, h => by cases b <;> simp [Q20] at h; rfl
theorem Xt : ∀ (a b : List AV), Jw a b = true → a = b
 | [], b, h => by cases b <;> simp [Jw] at h; rfl
 | x :: r, b, h => by
  cases b with
  | nil => simp [Jw] at h
  | cons y s =>
   simp only [Jw, Lb] at h;rw [Q2g x y h.1, Xt r s h.2]
end
def Q51 : List (PV × AV) → List (PV × AV) → Bool
 | [], [] => true
 | (k, v) :: r, (k', v') :: s => Gc k k' && (Q20 v v' && Q51 r s)
 | _, _ => false
theorem Q3h : ∀ (a b : List (PV × AV)), Q51 a b = true → a = b
 | [], [], _ => rfl
 | (k, v) :: r, (k', v') :: s, h => by
  simp only [Q51, Lb] at h;rw [Q24 k k' h.1, Q2g v v' h.2.1, Q3h r s h.2.2]
 | [], _ :: _, h => by simp [Q51] at h
 | _ :: _, [], h => by simp [Q51] at h
def Q8f : AObj → AObj → Bool
 | .map a, .map b => Q51 a b
 | .cells a, .cells b => Jw a b
 | .strIter s p, .strIter t q => decide (s = t) && Nat.beq p q
 | .dead, .dead => true
 | _, _ => false
theorem Q7o (a b : AObj) (h : Q8f a b = true) : a = b := by
 cases a <;> cases b <;> simp [Q8f] at h
 ·rw [Xt _ _ h]
 ·rw [Q3h _ _ h]
 ·obtain ⟨rfl, rfl⟩ := h; rfl
 rfl
def Q5s : List AObj → List AObj → Bool
 | [], _ => true
 | o :: r, o' :: r' => Q8f o o' && Q5s r r'
 | _ :: _, [] => false
theorem Q3p : ∀ (m H : List AObj), Q5s m H = true → ∃ rest, H = m ++ rest
 | [], H, _ => ⟨H, rfl⟩
 | o :: r, o' :: r', h => by
  simp only [Q5s, Lb] at h;obtain ⟨rest, e⟩ := Q3p r r' h.2;exact ⟨rest, by rw [Q7o _ _ h.1, e]; rfl⟩
 | _ :: _, [], h => by simp [Q5s] at h
def Q0t : Nat → List AObj → AV → List Nat
 | 0, _, _ => []
 | n + 1, H, v => match v with
  | .ptr a _ => a :: refsDo n H (H[a]?)
  | .slice _ a _ _ => a :: refsDo n H (H[a]?)
  | .map a => a :: refsDo n H (H[a]?)
  | .func _ a b => a.flatMap (Q0t n H) ++ b.flatMap (Q0t n H)
  | .iface _ v => Q0t n H v
  | .agg cs => cs.flatMap (Q0t n H)
  | .tuple cs => cs.flatMap (Q0t n H)
  | _ => []
where refsDo (n : Nat) (H : List AObj) : Option AObj → List Nat
 | some (.cells cs) => cs.flatMap (Q0t n H)
 | some (.map es) => es.flatMap fun q => Q0t n H q.2
 | _ => []
end
end Go.Av
