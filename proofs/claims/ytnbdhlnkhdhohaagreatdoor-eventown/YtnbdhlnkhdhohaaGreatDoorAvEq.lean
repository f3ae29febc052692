/- Part of the proof of EventOwn: for every input the law returns true; no condition. -/
import Derived.Test.YtnbdhlnkhdhohaaGreatDoorAvBase
namespace Go.Av
noncomputable section
mutual
def Qht : PV → PV → Bool
 | .bool a, .bool b => a == b
 | .int k n, .int k' n' => decide (k = k') && decide (n = n')
 | .str s, .str t => decide (s = t)
 | .nilPtr, .nilPtr => true
 | .nilSlice, .nilSlice => true
 | .slice0, .slice0 => true
 | .slice e r, .slice e' r' => Nat.beq e e' && Qhk r r'
 | .nilMap, .nilMap => true
 | .func (.func f) a b, .func (.func g) c d => Nat.beq f g && (Qg5 a c && Qg5 b d)
 | .nilFunc, .nilFunc => true
 | .nilIface, .nilIface => true
 | .agg a, .agg b => Qg5 a b
 | .tuple a, .tuple b => Qg5 a b
 | _, _ => false
def Qg5 : List PV → List PV → Bool
 | [], [] => true
 | a :: r, b :: s => Qht a b && Qg5 r s
 | _, _ => false
def Qhk : List (List PV) → List (List PV) → Bool
 | [], [] => true
 | a :: r, b :: s => Qg5 a b && Qhk r s
 | _, _ => false
end
mutual
theorem Qn0 : ∀ (a b : PV), Qht a b = true → a = b
 | .bool a, b, h => by cases b <;> simp [Qht] at h; subst h; rfl
 | .int k n, b, h => by cases b <;> simp [Qht] at h; obtain ⟨rfl, rfl⟩ := h; rfl
 | .str s, b, h => by cases b <;> simp [Qht] at h; subst h; rfl
 | .nilPtr, b, h => by cases b <;> simp [Qht] at h; rfl
 | .nilSlice, b, h => by cases b <;> simp [Qht] at h; rfl
 | .slice0, b, h => by cases b <;> simp [Qht] at h; rfl
 | .slice e r, b, h => by
  cases b <;> simp [Qht] at h;obtain ⟨rfl, h2⟩ := h;rw [Ql9 r _ h2]
 | .nilMap, b, h => by cases b <;> simp [Qht] at h; rfl
 | .pmap es, b, h => by cases b <;> simp [Qht] at h
 | .func fn a c, b, h => by
  cases b <;> cases fn <;> try (simp [Qht] at h; done)
  rename_i fn' a' c' f;cases fn' <;> simp [Qht] at h;obtain ⟨rfl, h2, h3⟩ := h;rw [Q74 a _ h2, Q74 c _ h3]
 | .nilFunc, b, h => by cases b <;> simp [Qht] at h; rfl
 | .iface t v, b, h => by cases b <;> simp [Qht] at h
 | .nilIface, b, h => by cases b <;> simp [Qht] at h; rfl
 | .agg a, b, h => by
  cases b <;> simp [Qht] at h;rw [Q74 a _ h]
 | .tuple a, b, h => by
  cases b <;> simp [Qht] at h;rw [Q74 a _ h]
theorem Q74 : ∀ (a b : List PV), Qg5 a b = true → a = b
 | [], b, h => by cases b <;> simp [Qg5] at h; rfl
 | x :: r, b, h => by
  cases b with
  | nil => simp [Qg5] at h
  | cons y s =>
   simp only [Qg5, La] at h;rw [Qn0 x y h.1, Q74 r s h.2]
theorem Ql9 : ∀ (a b : List (List PV)), Qhk a b = true → a = b
 | [], b, h => by cases b <;> simp [Qhk] at h; rfl
 | x :: r, b, h => by
  cases b with
  | nil => simp [Qhk] at h
  | cons y s =>
   simp only [Qhk, La] at h;rw [Q74 x y h.1, Ql9 r s h.2]
end
mutual
def Qmg : AV → AV → Bool
 | .p a, .p b => Qht a b
 | .ptr a o, .ptr b p => Nat.beq a b && Nat.beq o p
 | .gptr a o, .gptr b p => Nat.beq a b && Nat.beq o p
 | .rptr a, .rptr b => Qg5 a b
 | .slice e a o l, .slice e' a' o' l' => Nat.beq e e' && (Nat.beq a a' && (Nat.beq o o' && Nat.beq l l'))
 | .map a, .map b => Nat.beq a b
 | .func (.func f) a b, .func (.func g) c d => Nat.beq f g && (Qgv a c && Qgv b d)
 | .iface t v, .iface t' v' => Nat.beq t t' && Qmg v v'
 | .agg a, .agg b => Qgv a b
 | .tuple a, .tuple b => Qgv a b
 | .any, .any => true
 | _, _ => false
def Qgv : List AV → List AV → Bool
 | [], [] => true
 | a :: r, b :: s => Qmg a b && Qgv r s
 | _, _ => false
end
mutual
theorem Qmw : ∀ (a b : AV), Qmg a b = true → a = b
 | .p a, b, h => by cases b <;> simp [Qmg] at h; rw [Qn0 _ _ h]
 | .ptr a o, b, h => by cases b <;> simp [Qmg] at h; obtain ⟨rfl, rfl⟩ := h; rfl
 | .gptr a o, b, h => by cases b <;> simp [Qmg] at h; obtain ⟨rfl, rfl⟩ := h; rfl
 | .rptr a, b, h => by cases b <;> simp [Qmg] at h; rw [Q74 _ _ h]
 | .slice e a o l, b, h => by cases b <;> simp [Qmg] at h; obtain ⟨rfl, rfl, rfl, rfl⟩ := h; rfl
 | .map a, b, h => by cases b <;> simp [Qmg] at h; subst h; rfl
 | .func fn a c, b, h => by
  cases b <;> cases fn <;> try (simp [Qmg] at h; done)
  rename_i fn' a' c' f;cases fn' <;> simp [Qmg] at h;obtain ⟨rfl, h2, h3⟩ := h;rw [Q96 a _ h2, Q96 c _ h3]
 | .iface t v, b, h => by
  cases b <;> simp [Qmg] at h;obtain ⟨h1, h2⟩ := h;rw [Qmw v _ h2, h1]
 | .agg a, b, h => by
  cases b <;> simp [Qmg] at h;rw [Q96 a _ h]
 | .tuple a, b, h => by
  cases b <;> simp [Qmg] at h;rw [Q96 a _ h]
 | .any, b, h => by cases b <;> simp [Qmg] at h; rfl
theorem Q96 : ∀ (a b : List AV), Qgv a b = true → a = b
 | [], b, h => by cases b <;> simp [Qgv] at h; rfl
 | x :: r, b, h => by
  cases b with
  | nil => simp [Qgv] at h
  | cons y s =>
   simp only [Qgv, La] at h;rw [Qmw x y h.1, Q96 r s h.2]
end
def Qr3 : List (PV × AV) → List (PV × AV) → Bool
 | [], [] => true
 | (k, v) :: r, (k', v') :: s => Qht k k' && (Qmg v v' && Qr3 r s)
 | _, _ => false
theorem Qpd : ∀ (a b : List (PV × AV)), Qr3 a b = true → a = b
 | [], [], _ => rfl
 | (k, v) :: r, (k', v') :: s, h => by
  simp only [Qr3, La] at h;rw [Qn0 k k' h.1, Qmw v v' h.2.1, Qpd r s h.2.2]
 | [], _ :: _, h => by simp [Qr3] at h
 | _ :: _, [], h => by simp [Qr3] at h
def Z04 : AObj → AObj → Bool
 | .map a, .map b => Qr3 a b
 | .cells a, .cells b => Qgv a b
 | .strIter s p, .strIter t q => decide (s = t) && Nat.beq p q
 | .dead, .dead => true
 | _, _ => false
theorem Qy4 (a b : AObj) (h : Z04 a b = true) : a = b := by
 cases a <;> cases b <;> simp [Z04] at h
 ·rw [Q96 _ _ h]
 ·rw [Qpd _ _ h]
 ·obtain ⟨rfl, rfl⟩ := h; rfl
 rfl
def Qtk : List AObj → List AObj → Bool
 | [], _ => true
 | o :: r, o' :: r' => Z04 o o' && Qtk r r'
 | _ :: _, [] => false
theorem Qoo : ∀ (m H : List AObj), Qtk m H = true → ∃ rest, H = m ++ rest
 | [], H, _ => ⟨H, rfl⟩
 | o :: r, o' :: r', h => by
  simp only [Qtk, La] at h;obtain ⟨rest, e⟩ := Qoo r r' h.2;exact ⟨rest, by rw [Qy4 _ _ h.1, e]; rfl⟩
 | _ :: _, [], h => by simp [Qtk] at h
def Qkz : Nat → List AObj → AV → List Nat
 | 0, _, _ => []
 | n + 1, H, v => match v with
  | .ptr a _ => a :: refsDo n H (H[a]?)
  | .slice _ a _ _ => a :: refsDo n H (H[a]?)
  | .map a => a :: refsDo n H (H[a]?)
  | .func _ a b => a.flatMap (Qkz n H) ++ b.flatMap (Qkz n H)
  | .iface _ v => Qkz n H v
  | .agg cs => cs.flatMap (Qkz n H)
  | .tuple cs => cs.flatMap (Qkz n H)
  | _ => []
where refsDo (n : Nat) (H : List AObj) : Option AObj → List Nat
 | some (.cells cs) => cs.flatMap (Qkz n H)
 | some (.map es) => es.flatMap fun q => Qkz n H q.2
 | _ => []
end
end Go.Av
