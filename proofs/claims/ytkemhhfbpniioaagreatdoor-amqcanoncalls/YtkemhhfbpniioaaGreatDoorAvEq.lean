/- An abstract machine for the modelled code, and what its runs say of real calls. Part of a proof of a given statement: for every input the law returns true and the arguments read as before; no condition beyond the given row. -/
import Derived.Test.YtkemhhfbpniioaaGreatDoorAvBase
namespace Go.Av
noncomputable section
mutual
def Qfg : PV → PV → Bool
 | .bool a, .bool b => a == b
 | .int k n, .int k' n' => decide (k = k') && decide (n = n')
 | .str s, .str t => decide (s = t)
 | .nilPtr, .nilPtr => true
 | .nilSlice, .nilSlice => true
 | .slice e r, .slice e' r' => Nat.beq e e' && Qd4 r r'
 | .nilMap, .nilMap => true
 | .func (.func f) a b, .func (.func g) c d => Nat.beq f g && (Qbn a c && Qbn b d)
 | .nilFunc, .nilFunc => true
 | .nilIface, .nilIface => true
 | .agg a, .agg b => Qbn a b
 | .tuple a, .tuple b => Qbn a b
 | _, _ => false
def Qbn : List PV → List PV → Bool
 | [], [] => true
 | a :: r, b :: s => Qfg a b && Qbn r s
 | _, _ => false
def Qd4 : List (List PV) → List (List PV) → Bool
 | [], [] => true
 | a :: r, b :: s => Qbn a b && Qd4 r s
 | _, _ => false
end
mutual
theorem Qp3 : ∀ (a b : PV), Qfg a b = true → a = b
 | .bool a, b, h => by cases b <;> simp [Qfg] at h; subst h; rfl
 | .int k n, b, h => by cases b <;> simp [Qfg] at h; obtain ⟨rfl, rfl⟩ := h; rfl
 | .str s, b, h => by cases b <;> simp [Qfg] at h; subst h; rfl
 | .nilPtr, b, h => by cases b <;> simp [Qfg] at h; rfl
 | .nilSlice, b, h => by cases b <;> simp [Qfg] at h; rfl
 | .slice e r, b, h => by
  cases b <;> simp [Qfg] at h
  obtain ⟨rfl, h2⟩ := h
  rw [Qge r _ h2]
 | .nilMap, b, h => by cases b <;> simp [Qfg] at h; rfl
 | .pmap es, b, h => by cases b <;> simp [Qfg] at h
 | .func fn a c, b, h => by
  cases b <;> cases fn <;> try (simp [Qfg] at h; done)
  rename_i fn' a' c' f
  cases fn' <;> simp [Qfg] at h
  obtain ⟨rfl, h2, h3⟩ := h
  rw [Q4z a _ h2, Q4z c _ h3]
 | .nilFunc, b, h => by cases b <;> simp [Qfg] at h; rfl
 | .iface t v, b, h => by cases b <;> simp [Qfg] at h
 | .nilIface, b, h => by cases b <;> simp [Qfg] at h; rfl
 | .agg a, b, h => by
  cases b <;> simp [Qfg] at h
  rw [Q4z a _ h]
 | .tuple a, b, h => by
  cases b <;> simp [Qfg] at h
  rw [Q4z a _ h]
theorem Q4z : ∀ (a b : List PV), Qbn a b = true → a = b
 | [], b, h => by cases b <;> simp [Qbn] at h; rfl
 | x :: r, b, h => by
  cases b with
  | nil => simp [Qbn] at h
  | cons y s =>
   simp only [Qbn, Bool.and_eq_true] at h
   rw [Qp3 x y h.1, Q4z r s h.2]
theorem Qge : ∀ (a b : List (List PV)), Qd4 a b = true → a = b
 | [], b, h => by cases b <;> simp [Qd4] at h; rfl
 | x :: r, b, h => by
  cases b with
  | nil => simp [Qd4] at h
  | cons y s =>
   simp only [Qd4, Bool.and_eq_true] at h
   rw [Q4z x y h.1, Qge r s h.2]
end
mutual
def Qib : AV → AV → Bool
 | .p a, .p b => Qfg a b
 | .ptr a o, .ptr b p => Nat.beq a b && Nat.beq o p
 | .gptr a o, .gptr b p => Nat.beq a b && Nat.beq o p
 | .rptr a, .rptr b => Qbn a b
 | .slice e a o l, .slice e' a' o' l' => Nat.beq e e' && (Nat.beq a a' && (Nat.beq o o' && Nat.beq l l'))
 | .map a, .map b => Nat.beq a b
 | .func (.func f) a b, .func (.func g) c d => Nat.beq f g && (Qcn a c && Qcn b d)
 | .iface t v, .iface t' v' => Nat.beq t t' && Qib v v'
 | .agg a, .agg b => Qcn a b
 | .tuple a, .tuple b => Qcn a b
 | .any, .any => true
 | _, _ => false
def Qcn : List AV → List AV → Bool
 | [], [] => true
 | a :: r, b :: s => Qib a b && Qcn r s
 | _, _ => false
end
mutual
theorem Qnv : ∀ (a b : AV), Qib a b = true → a = b
 | .p a, b, h => by cases b <;> simp [Qib] at h; rw [Qp3 _ _ h]
 | .ptr a o, b, h => by cases b <;> simp [Qib] at h; obtain ⟨rfl, rfl⟩ := h; rfl
 | .gptr a o, b, h => by cases b <;> simp [Qib] at h; obtain ⟨rfl, rfl⟩ := h; rfl
 | .rptr a, b, h => by cases b <;> simp [Qib] at h; rw [Q4z _ _ h]
 | .slice e a o l, b, h => by cases b <;> simp [Qib] at h; obtain ⟨rfl, rfl, rfl, rfl⟩ := h; rfl
 | .map a, b, h => by cases b <;> simp [Qib] at h; subst h; rfl
 | .func fn a c, b, h => by
  cases b <;> cases fn <;> try (simp [Qib] at h; done)
  rename_i fn' a' c' f
  cases fn' <;> simp [Qib] at h
  obtain ⟨rfl, h2, h3⟩ := h
  rw [Q64 a _ h2, Q64 c _ h3]
 | .iface t v, b, h => by
  cases b <;> simp [Qib] at h
  obtain ⟨h1, h2⟩ := h
  rw [Qnv v _ h2, h1]
 | .agg a, b, h => by
  cases b <;> simp [Qib] at h
  rw [Q64 a _ h]
 | .tuple a, b, h => by
  cases b <;> simp [Qib] at h
  rw [Q64 a _ h]
 | .any, b, h => by cases b <;> simp [Qib] at h; rfl
theorem Q64 : ∀ (a b : List AV), Qcn a b = true → a = b
 | [], b, h => by cases b <;> simp [Qcn] at h; rfl
 | x :: r, b, h => by
  cases b with
  | nil => simp [Qcn] at h
  | cons y s =>
   simp only [Qcn, Bool.and_eq_true] at h
   rw [Qnv x y h.1, Q64 r s h.2]
end
def Qts : AObj → AObj → Bool
 | .cells a, .cells b => Qcn a b
 | .strIter s p, .strIter t q => decide (s = t) && Nat.beq p q
 | .dead, .dead => true
 | _, _ => false
theorem Qpz (a b : AObj) (h : Qts a b = true) : a = b := by
 cases a <;> cases b <;> simp [Qts] at h
 ·rw [Q64 _ _ h]
 ·obtain ⟨rfl, rfl⟩ := h; rfl
 ·rfl
def Qnu : List AObj → List AObj → Bool
 | [], _ => true
 | o :: r, o' :: r' => Qts o o' && Qnu r r'
 | _ :: _, [] => false
theorem Qk3 : ∀ (m H : List AObj), Qnu m H = true → ∃ rest, H = m ++ rest
 | [], H, _ => ⟨H, rfl⟩
 | o :: r, o' :: r', h => by
  simp only [Qnu, Bool.and_eq_true] at h
  obtain ⟨rest, e⟩ := Qk3 r r' h.2
  exact ⟨rest, by rw [Qpz _ _ h.1, e]; rfl⟩
 | _ :: _, [], h => by simp [Qnu] at h
def Qi0 : Nat → List AObj → AV → List Nat
 | 0, _, _ => []
 | n + 1, H, v => match v with
  | .ptr a _ => a :: refsDo n H (H[a]?)
  | .slice _ a _ _ => a :: refsDo n H (H[a]?)
  | .map a => [a]
  | .func _ a b => a.flatMap (Qi0 n H) ++ b.flatMap (Qi0 n H)
  | .iface _ v => Qi0 n H v
  | .agg cs => cs.flatMap (Qi0 n H)
  | .tuple cs => cs.flatMap (Qi0 n H)
  | _ => []
where refsDo (n : Nat) (H : List AObj) : Option AObj → List Nat
 | some (.cells cs) => cs.flatMap (Qi0 n H)
 | _ => []
end
end Go.Av
