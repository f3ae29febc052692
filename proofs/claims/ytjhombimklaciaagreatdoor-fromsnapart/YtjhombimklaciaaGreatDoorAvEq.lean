/- Part of the proof of FromsnApart: for every input the law returns true; no condition. -/
import Derived.Test.YtjhombimklaciaaGreatDoorAvBase
namespace Go.Av
noncomputable section
mutual
def Qaq : PV → PV → Bool
 | .bool a, .bool b => a == b
 | .int k n, .int k' n' => decide (k = k') && decide (n = n')
 | .str s, .str t => decide (s = t)
 | .nilPtr, .nilPtr => true
 | .nilSlice, .nilSlice => true
 | .slice0, .slice0 => true
 | .slice e r, .slice e' r' => Nat.beq e e' && Qay r r'
 | .nilMap, .nilMap => true
 | .func (.func f) a b, .func (.func g) c d => Nat.beq f g && (Q9u a c && Q9u b d)
 | .nilFunc, .nilFunc => true
 | .nilIface, .nilIface => true
 | .agg a, .agg b => Q9u a b
 | .tuple a, .tuple b => Q9u a b
 | _, _ => false
def Q9u : List PV → List PV → Bool
 | [], [] => true
 | a :: r, b :: s => Qaq a b && Q9u r s
 | _, _ => false
def Qay : List (List PV) → List (List PV) → Bool
 | [], [] => true
 | a :: r, b :: s => Q9u a b && Qay r s
 | _, _ => false
end
mutual
theorem Qg3 : ∀ (a b : PV), Qaq a b = true → a = b
 | .bool a, b, h => by cases b <;> simp [Qaq] at h; subst h; rfl
 | .int k n, b, h => by cases b <;> simp [Qaq] at h; obtain ⟨rfl, rfl⟩ := h; rfl
 | .str s, b, h => by cases b <;> simp [Qaq] at h; subst h; rfl
 | .nilPtr, b, h => by cases b <;> simp [Qaq] at h; rfl
 | .nilSlice, b, h => by cases b <;> simp [Qaq] at h; rfl
 | .slice0, b, h => by cases b <;> simp [Qaq] at h; rfl
 | .slice e r, b, h => by
  cases b <;> simp [Qaq] at h;obtain ⟨rfl, h2⟩ := h;rw [Qeq r _ h2]
 | .nilMap, b, h => by cases b <;> simp [Qaq] at h; rfl
 | .pmap es, b, h => by cases b <;> simp [Qaq] at h
 | .func fn a c, b, h => by
  cases b <;> cases fn <;> try (simp [Qaq] at h; done)
  rename_i fn' a' c' f;cases fn' <;> simp [Qaq] at h;obtain ⟨rfl, h2, h3⟩ := h;rw [Q2o a _ h2, Q2o c _ h3]
 | .nilFunc, b, h => by cases b <;> simp [Qaq] at h; rfl
 | .iface t v, b, h => by cases b <;> simp [Qaq] at h
 | .nilIface, b, h => by cases b <;> simp [Qaq] at h; rfl
 | .agg a, b, h => by
  cases b <;> simp [Qaq] at h;rw [Q2o a _ h]
 | .tuple a, b, h => by
  cases b <;> simp [Qaq] at h;rw [Q2o a _ h]
theorem Q2o : ∀ (a b : List PV), Q9u a b = true → a = b
 | [], b, h => by cases b <;> simp [Q9u] at h; rfl
 | x :: r, b, h => by
  cases b with
  | nil => simp [Q9u] at h
  | cons y s =>
   simp only [Q9u, Lb] at h;rw [Qg3 x y h.1, Q2o r s h.2]
theorem Qeq : ∀ (a b : List (List PV)), Qay a b = true → a = b
 | [], b, h => by cases b <;> simp [Qay] at h; rfl
 | x :: r, b, h => by
  cases b with
  | nil => simp [Qay] at h
  | cons y s =>
   simp only [Qay, Lb] at h;rw [Q2o x y h.1, Qeq r s h.2]
end
mutual
def Qev : AV → AV → Bool
 | .p a, .p b => Qaq a b
 | .ptr a o, .ptr b p => Nat.beq a b && Nat.beq o p
 | .gptr a o, .gptr b p => Nat.beq a b && Nat.beq o p
 | .rptr a, .rptr b => Q9u a b
 | .slice e a o l, .slice e' a' o' l' => Nat.beq e e' && (Nat.beq a a' && (Nat.beq o o' && Nat.beq l l'))
 | .map a, .map b => Nat.beq a b
 | .func (.func f) a b, .func (.func g) c d => Nat.beq f g && (Q9y a c && Q9y b d)
 | .iface t v, .iface t' v' => Nat.beq t t' && Qev v v'
 | .agg a, .agg b => Q9y a b
 | .tuple a, .tuple b => Q9y a b
 | .any, .any => true
 | _, _ => false
def Q9y : List AV → List AV → Bool
 | [], [] => true
 | a :: r, b :: s => Qev a b && Q9y r s
 | _, _ => false
end
mutual
theorem Qfv : ∀ (a b : AV), Qev a b = true → a = b
 | .p a, b, h => by cases b <;> simp [Qev] at h; rw [Qg3 _ _ h]
 | .ptr a o, b, h => by cases b <;> simp [Qev] at h; obtain ⟨rfl, rfl⟩ := h; rfl
 | .gptr a o, b, h => by cases b <;> simp [Qev] at h; obtain ⟨rfl, rfl⟩ := h; rfl
 | .rptr a, b, h => by cases b <;> simp [Qev] at h; rw [Q2o _ _ h]
 | .slice e a o l, b, h => by cases b <;> simp [Qev] at h; obtain ⟨rfl, rfl, rfl, rfl⟩ := h; rfl
 | .map a, b, h => by cases b <;> simp [Qev] at h; subst h; rfl
 | .func fn a c, b, h => by
  cases b <;> cases fn <;> try (simp [Qev] at h; done)
  rename_i fn' a' c' f;cases fn' <;> simp [Qev] at h;obtain ⟨rfl, h2, h3⟩ := h;rw [Q3u a _ h2, Q3u c _ h3]
 | .iface t v, b, h => by
  cases b <;> simp [Qev] at h;obtain ⟨h1, h2⟩ := h;rw [Qfv v _ h2, h1]
 | .agg a, b, h => by
  cases b <;> simp [Qev] at h;rw [Q3u a _ h]
 | .tuple a, b, h => by
  cases b <;> simp [Qev] at h;rw [Q3u a _ h]
 | .any, b, h => by cases b <;> simp [Qev] at h; rfl
theorem Q3u : ∀ (a b : List AV), Q9y a b = true → a = b
 | [], b, h => by cases b <;> simp [Q9y] at h; rfl
 | x :: r, b, h => by
  cases b with
  | nil => simp [Q9y] at h
  | cons y s =>
   simp only [Q9y, Lb] at h;rw [Qfv x y h.1, Q3u r s h.2]
end
def Qia : List (PV × AV) → List (PV × AV) → Bool
 | [], [] => true
 | (k, v) :: r, (k', v') :: s => Qaq k k' && (Qev v v' && Qia r s)
 | _, _ => false
theorem Qgt : ∀ (a b : List (PV × AV)), Qia a b = true → a = b
 | [], [], _ => rfl
 | (k, v) :: r, (k', v') :: s, h => by
  simp only [Qia, Lb] at h;rw [Qg3 k k' h.1, Qfv v v' h.2.1, Qgt r s h.2.2]
 | [], _ :: _, h => by simp [Qia] at h
 | _ :: _, [], h => by simp [Qia] at h
def Qq1 : AObj → AObj → Bool
 | .map a, .map b => Qia a b
 | .cells a, .cells b => Q9y a b
 | .strIter s p, .strIter t q => decide (s = t) && Nat.beq p q
 | .dead, .dead => true
 | _, _ => false
theorem Qne (a b : AObj) (h : Qq1 a b = true) : a = b := by
 cases a <;> cases b <;> simp [Qq1] at h
 ·rw [Q3u _ _ h]
 ·rw [Qgt _ _ h]
 ·obtain ⟨rfl, rfl⟩ := h; rfl
 rfl
def Qm8 : List AObj → List AObj → Bool
 | [], _ => true
 | o :: r, o' :: r' => Qq1 o o' && Qm8 r r'
 | _ :: _, [] => false
theorem Qgf : ∀ (m H : List AObj), Qm8 m H = true → ∃ rest, H = m ++ rest
 | [], H, _ => ⟨H, rfl⟩
 | o :: r, o' :: r', h => by
  simp only [Qm8, Lb] at h;obtain ⟨rest, e⟩ := Qgf r r' h.2;exact ⟨rest, by rw [Qne _ _ h.1, e]; rfl⟩
 | _ :: _, [], h => by simp [Qm8] at h
def Qfq (g : AV → List Nat) : Option AObj → List Nat
 | some (.cells cs) => cs.flatMap g
 | some (.map es) => es.flatMap fun q => g q.2
 | _ => []
def Qcp : Nat → List AObj → AV → List Nat
 | 0, _, _ => []
 | n + 1, H, v => match v with
  | .ptr a _ => a :: Qfq (Qcp n H) (H[a]?)
  | .slice _ a _ _ => a :: Qfq (Qcp n H) (H[a]?)
  | .map a => a :: Qfq (Qcp n H) (H[a]?)
  | .func _ a b => a.flatMap (Qcp n H) ++ b.flatMap (Qcp n H)
  | .iface _ v => Qcp n H v
  | .agg cs => cs.flatMap (Qcp n H)
  | .tuple cs => cs.flatMap (Qcp n H)
  | _ => []
end
end Go.Av
