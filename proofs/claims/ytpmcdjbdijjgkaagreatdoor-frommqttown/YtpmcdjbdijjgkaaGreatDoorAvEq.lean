/- Part of the proof of FrommqttOwn: for every input the law returns true; no condition. -/
import Derived.Test.YtpmcdjbdijjgkaaGreatDoorAvBase
namespace Go.Av
noncomputable section
mutual
def Qag : PV → PV → Bool
 | .bool a, .bool b => a == b
 | .int k n, .int k' n' => decide (k = k') && decide (n = n')
 | .str s, .str t => decide (s = t)
 | .nilPtr, .nilPtr => true
 | .nilSlice, .nilSlice => true
 | .slice0, .slice0 => true
 | .slice e r, .slice e' r' => Nat.beq e e' && Qac r r'
 | .nilMap, .nilMap => true
 | .func (.func f) a b, .func (.func g) c d => Nat.beq f g && (Q7q a c && Q7q b d)
 | .nilFunc, .nilFunc => true
 | .nilIface, .nilIface => true
 | .agg a, .agg b => Q7q a b
 | .tuple a, .tuple b => Q7q a b
 | _, _ => false
def Q7q : List PV → List PV → Bool
 | [], [] => true
 | a :: r, b :: s => Qag a b && Q7q r s
 | _, _ => false
def Qac : List (List PV) → List (List PV) → Bool
 | [], [] => true
 | a :: r, b :: s => Q7q a b && Qac r s
 | _, _ => false
end
mutual
theorem Qdt : ∀ (a b : PV), Qag a b = true → a = b
 | .bool a, b, h => by cases b <;> simp [Qag] at h; subst h; rfl
 | .int k n, b, h => by cases b <;> simp [Qag] at h; obtain ⟨rfl, rfl⟩ := h; rfl
 | .str s, b, h => by cases b <;> simp [Qag] at h; subst h; rfl
 | .nilPtr, b, h => by cases b <;> simp [Qag] at h; rfl
 | .nilSlice, b, h => by cases b <;> simp [Qag] at h; rfl
 | .slice0, b, h => by cases b <;> simp [Qag] at h; rfl
 | .slice e r, b, h => by
  cases b <;> simp [Qag] at h;obtain ⟨rfl, h2⟩ := h;rw [Qc4 r _ h2]
 | .nilMap, b, h => by cases b <;> simp [Qag] at h; rfl
 | .pmap es, b, h => by cases b <;> simp [Qag] at h
 | .func fn a c, b, h => by
  cases b <;> cases fn <;> try (simp [Qag] at h; done)
  rename_i fn' a' c' f;cases fn' <;> simp [Qag] at h;obtain ⟨rfl, h2, h3⟩ := h;rw [Q22 a _ h2, Q22 c _ h3]
 | .nilFunc, b, h => by cases b <;> simp [Qag] at h; rfl
 | .iface t v, b, h => by cases b <;> simp [Qag] at h
 | .nilIface, b, h => by cases b <;> simp [Qag] at h; rfl
 | .agg a, b, h => by
  cases b <;> simp [Qag] at h;rw [Q22 a _ h]
 | .tuple a, b, h => by
  cases b <;> simp [Qag] at h;rw [Q22 a _ h]
theorem Q22 : ∀ (a b : List PV), Q7q a b = true → a = b
 | [], b, h => by cases b <;> simp [Q7q] at h; rfl
 | x :: r, b, h => by
  cases b with
  | nil => simp [Q7q] at h
  | cons y s =>
   simp only [Q7q, La] at h;rw [Qdt x y h.1, Q22 r s h.2]
theorem Qc4 : ∀ (a b : List (List PV)), Qac a b = true → a = b
 | [], b, h => by cases b <;> simp [Qac] at h; rfl
 | x :: r, b, h => by
  cases b with
  | nil => simp [Qac] at h
  | cons y s =>
   simp only [Qac, La] at h;rw [Q22 x y h.1, Qc4 r s h.2]
end
mutual
def Qdo : AV → AV → Bool
 | .p a, .p b => Qag a b
 | .ptr a o, .ptr b p => Nat.beq a b && Nat.beq o p
 | .gptr a o, .gptr b p => Nat.beq a b && Nat.beq o p
 | .rptr a, .rptr b => Q7q a b
 | .slice e a o l, .slice e' a' o' l' => Nat.beq e e' && (Nat.beq a a' && (Nat.beq o o' && Nat.beq l l'))
 | .map a, .map b => Nat.beq a b
 | .func (.func f) a b, .func (.func g) c d => Nat.beq f g && (Q9d a c && Q9d b d)
 | .iface t v, .iface t' v' => Nat.beq t t' && Qdo v v'
 | .agg a, .agg b => Q9d a b
 | .tuple a, .tuple b => Q9d a b
 | .any, .any => true
 | _, _ => false
def Q9d : List AV → List AV → Bool
 | [], [] => true
 | a :: r, b :: s => Qdo a b && Q9d r s
 | _, _ => false
end
mutual
theorem Qeo : ∀ (a b : AV), Qdo a b = true → a = b
 | .p a, b, h => by cases b <;> simp [Qdo] at h; rw [Qdt _ _ h]
 | .ptr a o, b, h => by cases b <;> simp [Qdo] at h; obtain ⟨rfl, rfl⟩ := h; rfl
 | .gptr a o, b, h => by cases b <;> simp [Qdo] at h; obtain ⟨rfl, rfl⟩ := h; rfl
 | .rptr a, b, h => by cases b <;> simp [Qdo] at h; rw [Q22 _ _ h]
 | .slice e a o l, b, h => by cases b <;> simp [Qdo] at h; obtain ⟨rfl, rfl, rfl, rfl⟩ := h; rfl
 | .map a, b, h => by cases b <;> simp [Qdo] at h; subst h; rfl
 | .func fn a c, b, h => by
  cases b <;> cases fn <;> try (simp [Qdo] at h; done)
  rename_i fn' a' c' f;cases fn' <;> simp [Qdo] at h;obtain ⟨rfl, h2, h3⟩ := h;rw [Q3e a _ h2, Q3e c _ h3]
 | .iface t v, b, h => by
  cases b <;> simp [Qdo] at h;obtain ⟨h1, h2⟩ := h;rw [Qeo v _ h2, h1]
 | .agg a, b, h => by
  cases b <;> simp [Qdo] at h;rw [Q3e a _ h]
 | .tuple a, b, h => by
  cases b <;> simp [Qdo] at h;rw [Q3e a _ h]
 | .any, b, h => by cases b <;> simp [Qdo] at h; rfl
theorem Q3e : ∀ (a b : List AV), Q9d a b = true → a = b
 | [], b, h => by cases b <;> simp [Q9d] at h; rfl
 | x :: r, b, h => by
  cases b with
  | nil => simp [Q9d] at h
  | cons y s =>
   simp only [Q9d, La] at h;rw [Qeo x y h.1, Q3e r s h.2]
end
def Qh5 : List (PV × AV) → List (PV × AV) → Bool
 | [], [] => true
 | (k, v) :: r, (k', v') :: s => Qag k k' && (Qdo v v' && Qh5 r s)
 | _, _ => false
theorem Qg6 : ∀ (a b : List (PV × AV)), Qh5 a b = true → a = b
 | [], [], _ => rfl
 | (k, v) :: r, (k', v') :: s, h => by
  simp only [Qh5, La] at h;rw [Qdt k k' h.1, Qeo v v' h.2.1, Qg6 r s h.2.2]
 | [], _ :: _, h => by simp [Qh5] at h
 | _ :: _, [], h => by simp [Qh5] at h
def Qoa : AObj → AObj → Bool
 | .map a, .map b => Qh5 a b
 | .cells a, .cells b => Q9d a b
 | .strIter s p, .strIter t q => decide (s = t) && Nat.beq p q
 | .dead, .dead => true
 | _, _ => false
theorem Qk8 (a b : AObj) (h : Qoa a b = true) : a = b := by
 cases a <;> cases b <;> simp [Qoa] at h
 ·rw [Q3e _ _ h]
 ·rw [Qg6 _ _ h]
 ·obtain ⟨rfl, rfl⟩ := h; rfl
 rfl
def Qhw : List AObj → List AObj → Bool
 | [], _ => true
 | o :: r, o' :: r' => Qoa o o' && Qhw r r'
 | _ :: _, [] => false
theorem Qge : ∀ (m H : List AObj), Qhw m H = true → ∃ rest, H = m ++ rest
 | [], H, _ => ⟨H, rfl⟩
 | o :: r, o' :: r', h => by
  simp only [Qhw, La] at h;obtain ⟨rest, e⟩ := Qge r r' h.2;exact ⟨rest, by rw [Qk8 _ _ h.1, e]; rfl⟩
 | _ :: _, [], h => by simp [Qhw] at h
def Qbx : Nat → List AObj → AV → List Nat
 | 0, _, _ => []
 | n + 1, H, v => match v with
  | .ptr a _ => a :: refsDo n H (H[a]?)
  | .slice _ a _ _ => a :: refsDo n H (H[a]?)
  | .map a => a :: refsDo n H (H[a]?)
  | .func _ a b => a.flatMap (Qbx n H) ++ b.flatMap (Qbx n H)
  | .iface _ v => Qbx n H v
  | .agg cs => cs.flatMap (Qbx n H)
  | .tuple cs => cs.flatMap (Qbx n H)
  | _ => []
where refsDo (n : Nat) (H : List AObj) : Option AObj → List Nat
 | some (.cells cs) => cs.flatMap (Qbx n H)
 | some (.map es) => es.flatMap fun q => Qbx n H q.2
 | _ => []
end
end Go.Av
