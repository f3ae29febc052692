/- Part of the proof of EventCopies: for every input the law returns true; no condition. -/
import Derived.Test.YtnbdhlnkhdhohaaGreatDoorAvBase
namespace Go.Av
noncomputable section
mutual
def Qic : PV → PV → Bool
 | .bool a, .bool b => a == b
 | .int k n, .int k' n' => decide (k = k') && decide (n = n')
 | .str s, .str t => decide (s = t)
 | .nilPtr, .nilPtr => true
 | .nilSlice, .nilSlice => true
 | .slice0, .slice0 => true
 | .slice e r, .slice e' r' => Nat.beq e e' && Qhl r r'
 | .nilMap, .nilMap => true
 | .func (.func f) a b, .func (.func g) c d => Nat.beq f g && (Qgk a c && Qgk b d)
 | .nilFunc, .nilFunc => true
 | .nilIface, .nilIface => true
 | .agg a, .agg b => Qgk a b
 | .tuple a, .tuple b => Qgk a b
 | _, _ => false
def Qgk : List PV → List PV → Bool
 | [], [] => true
 | a :: r, b :: s => Qic a b && Qgk r s
 | _, _ => false
def Qhl : List (List PV) → List (List PV) → Bool
 | [], [] => true
 | a :: r, b :: s => Qgk a b && Qhl r s
 | _, _ => false
end
mutual
theorem Qn8 : ∀ (a b : PV), Qic a b = true → a = b
 | .bool a, b, h => by cases b <;> simp [Qic] at h; subst h; rfl
 | .int k n, b, h => by cases b <;> simp [Qic] at h; obtain ⟨rfl, rfl⟩ := h; rfl
 | .str s, b, h => by cases b <;> simp [Qic] at h; subst h; rfl
 | .nilPtr, b, h => by cases b <;> simp [Qic] at h; rfl
 | .nilSlice, b, h => by cases b <;> simp [Qic] at h; rfl
 | .slice0, b, h => by cases b <;> simp [Qic] at h; rfl
 | .slice e r, b, h => by
  cases b <;> simp [Qic] at h;obtain ⟨rfl, h2⟩ := h;rw [Qlj r _ h2]
 | .nilMap, b, h => by cases b <;> simp [Qic] at h; rfl
 | .pmap es, b, h => by cases b <;> simp [Qic] at h
 | .func fn a c, b, h => by
  cases b <;> cases fn <;> try (simp [Qic] at h; done)
  rename_i fn' a' c' f;cases fn' <;> simp [Qic] at h;obtain ⟨rfl, h2, h3⟩ := h;rw [Q7u a _ h2, Q7u c _ h3]
 | .nilFunc, b, h => by cases b <;> simp [Qic] at h; rfl
 | .iface t v, b, h => by cases b <;> simp [Qic] at h
 | .nilIface, b, h => by cases b <;> simp [Qic] at h; rfl
 | .agg a, b, h => by
  cases b <;> simp [Qic] at h;rw [Q7u a _ h]
 | .tuple a, b, h => by
  cases b <;> simp [Qic] at h;rw [Q7u a _ h]
theorem Q7u : ∀ (a b : List PV), Qgk a b = true → a = b
 | [], b, h => by cases b <;> simp [Qgk] at h; rfl
 | x :: r, b, h => by
  cases b with
  | nil => simp [Qgk] at h
  | cons y s =>
   simp only [Qgk, La] at h;rw [Qn8 x y h.1, Q7u r s h.2]
theorem Qlj : ∀ (a b : List (List PV)), Qhl a b = true → a = b
 | [], b, h => by cases b <;> simp [Qhl] at h; rfl
 | x :: r, b, h => by
  cases b with
  | nil => simp [Qhl] at h
  | cons y s =>
   simp only [Qhl, La] at h;rw [Q7u x y h.1, Qlj r s h.2]
end
mutual
def Qmg : AV → AV → Bool
 | .p a, .p b => Qic a b
 | .ptr a o, .ptr b p => Nat.beq a b && Nat.beq o p
 | .gptr a o, .gptr b p => Nat.beq a b && Nat.beq o p
 | .rptr a, .rptr b => Qgk a b
 | .slice e a o l, .slice e' a' o' l' => Nat.beq e e' && (Nat.beq a a' && (Nat.beq o o' && Nat.beq l l'))
 | .map a, .map b => Nat.beq a b
 | .func (.func f) a b, .func (.func g) c d => Nat.beq f g && (Qhb a c && Qhb b d)
 | .iface t v, .iface t' v' => Nat.beq t t' && Qmg v v'
 | .agg a, .agg b => Qhb a b
 | .tuple a, .tuple b => Qhb a b
 | .any, .any => true
 | _, _ => false
def Qhb : List AV → List AV → Bool
 | [], [] => true
 | a :: r, b :: s => Qmg a b && Qhb r s
 | _, _ => false
end
mutual
theorem Qne : ∀ (a b : AV), Qmg a b = true → a = b
 | .p a, b, h => by cases b <;> simp [Qmg] at h; rw [Qn8 _ _ h]
 | .ptr a o, b, h => by cases b <;> simp [Qmg] at h; obtain ⟨rfl, rfl⟩ := h; rfl
 | .gptr a o, b, h => by cases b <;> simp [Qmg] at h; obtain ⟨rfl, rfl⟩ := h; rfl
 | .rptr a, b, h => by cases b <;> simp [Qmg] at h; rw [Q7u _ _ h]
 | .slice e a o l, b, h => by cases b <;> simp [Qmg] at h; obtain ⟨rfl, rfl, rfl, rfl⟩ := h; rfl
 | .map a, b, h => by cases b <;> simp [Qmg] at h; subst h; rfl
 | .func fn a c, b, h => by
  cases b <;> cases fn <;> try (simp [Qmg] at h; done)
  rename_i fn' a' c' f;cases fn' <;> simp [Qmg] at h;obtain ⟨rfl, h2, h3⟩ := h;rw [Q96 a _ h2, Q96 c _ h3]
 | .iface t v, b, h => by
  cases b <;> simp [Qmg] at h;obtain ⟨h1, h2⟩ := h;rw [Qne v _ h2, h1]
 | .agg a, b, h => by
  cases b <;> simp [Qmg] at h;rw [Q96 a _ h]
 | .tuple a, b, h => by
  cases b <;> simp [Qmg] at h;rw [Q96 a _ h]
 | .any, b, h => by cases b <;> simp [Qmg] at h; rfl
theorem Q96 : ∀ (a b : List AV), Qhb a b = true → a = b
 | [], b, h => by cases b <;> simp [Qhb] at h; rfl
 | x :: r, b, h => by
  cases b with
  | nil => simp [Qhb] at h
  | cons y s =>
   simp only [Qhb, La] at h;rw [Qne x y h.1, Q96 r s h.2]
end
def Qqk : List (PV × AV) → List (PV × AV) → Bool
 | [], [] => true
 | (k, v) :: r, (k', v') :: s => Qic k k' && (Qmg v v' && Qqk r s)
 | _, _ => false
theorem Qpj : ∀ (a b : List (PV × AV)), Qqk a b = true → a = b
 | [], [], _ => rfl
 | (k, v) :: r, (k', v') :: s, h => by
  simp only [Qqk, La] at h;rw [Qn8 k k' h.1, Qne v v' h.2.1, Qpj r s h.2.2]
 | [], _ :: _, h => by simp [Qqk] at h
 | _ :: _, [], h => by simp [Qqk] at h
def Qze : AObj → AObj → Bool
 | .map a, .map b => Qqk a b
 | .cells a, .cells b => Qhb a b
 | .strIter s p, .strIter t q => decide (s = t) && Nat.beq p q
 | .dead, .dead => true
 | _, _ => false
theorem Qvr (a b : AObj) (h : Qze a b = true) : a = b := by
 cases a <;> cases b <;> simp [Qze] at h
 ·rw [Q96 _ _ h]
 ·rw [Qpj _ _ h]
 ·obtain ⟨rfl, rfl⟩ := h; rfl
 rfl
def Qu5 : List AObj → List AObj → Bool
 | [], _ => true
 | o :: r, o' :: r' => Qze o o' && Qu5 r r'
 | _ :: _, [] => false
theorem Qpu : ∀ (m H : List AObj), Qu5 m H = true → ∃ rest, H = m ++ rest
 | [], H, _ => ⟨H, rfl⟩
 | o :: r, o' :: r', h => by
  simp only [Qu5, La] at h;obtain ⟨rest, e⟩ := Qpu r r' h.2;exact ⟨rest, by rw [Qvr _ _ h.1, e]; rfl⟩
 | _ :: _, [], h => by simp [Qu5] at h
def Qk6 : Nat → List AObj → AV → List Nat
 | 0, _, _ => []
 | n + 1, H, v => match v with
  | .ptr a _ => a :: refsDo n H (H[a]?)
  | .slice _ a _ _ => a :: refsDo n H (H[a]?)
  | .map a => a :: refsDo n H (H[a]?)
  | .func _ a b => a.flatMap (Qk6 n H) ++ b.flatMap (Qk6 n H)
  | .iface _ v => Qk6 n H v
  | .agg cs => cs.flatMap (Qk6 n H)
  | .tuple cs => cs.flatMap (Qk6 n H)
  | _ => []
where refsDo (n : Nat) (H : List AObj) : Option AObj → List Nat
 | some (.cells cs) => cs.flatMap (Qk6 n H)
 | some (.map es) => es.flatMap fun q => Qk6 n H q.2
 | _ => []
end
end Go.Av
