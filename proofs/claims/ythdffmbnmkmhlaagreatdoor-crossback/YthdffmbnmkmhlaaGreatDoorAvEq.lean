/- Part of the proof of CrossBack: for every input the law returns true; no condition. -/
import Derived.Test.YthdffmbnmkmhlaaGreatDoorAvBase
namespace Go.Av
noncomputable section
mutual
def Qgu : PV → PV → Bool
 | .bool a, .bool b => a == b
 | .int k n, .int k' n' => decide (k = k') && decide (n = n')
 | .str s, .str t => decide (s = t)
 | .nilPtr, .nilPtr => true
 | .nilSlice, .nilSlice => true
 | .slice0, .slice0 => true
 | .slice e r, .slice e' r' => Nat.beq e e' && Qgg r r'
 | .nilMap, .nilMap => true
 | .func (.func f) a b, .func (.func g) c d => Nat.beq f g && (Qe4 a c && Qe4 b d)
 | .nilFunc, .nilFunc => true
 | .nilIface, .nilIface => true
 | .agg a, .agg b => Qe4 a b
 | .tuple a, .tuple b => Qe4 a b
 | _, _ => false
def Qe4 : List PV → List PV → Bool
 | [], [] => true
 | a :: r, b :: s => Qgu a b && Qe4 r s
 | _, _ => false
def Qgg : List (List PV) → List (List PV) → Bool
 | [], [] => true
 | a :: r, b :: s => Qe4 a b && Qgg r s
 | _, _ => false
end
mutual
theorem Qmj : ∀ (a b : PV), Qgu a b = true → a = b
 | .bool a, b, h => by cases b <;> simp [Qgu] at h; subst h; rfl
 | .int k n, b, h => by cases b <;> simp [Qgu] at h; obtain ⟨rfl, rfl⟩ := h; rfl
 | .str s, b, h => by cases b <;> simp [Qgu] at h; subst h; rfl
 | .nilPtr, b, h => by cases b <;> simp [Qgu] at h; rfl
 | .nilSlice, b, h => by cases b <;> simp [Qgu] at h; rfl
 | .slice0, b, h => by cases b <;> simp [Qgu] at h; rfl
 | .slice e r, b, h => by
  cases b <;> simp [Qgu] at h;obtain ⟨rfl, h2⟩ := h;rw [Qkc r _ h2]
 | .nilMap, b, h => by cases b <;> simp [Qgu] at h; rfl
 | .pmap es, b, h => by cases b <;> simp [Qgu] at h
 | .func fn a c, b, h => by
  cases b <;> cases fn <;> try (simp [Qgu] at h; done)
  rename_i fn' a' c' f;cases fn' <;> simp [Qgu] at h;obtain ⟨rfl, h2, h3⟩ := h;rw [Q5t a _ h2, Q5t c _ h3]
 | .nilFunc, b, h => by cases b <;> simp [Qgu] at h; rfl
 | .iface t v, b, h => by cases b <;> simp [Qgu] at h
 | .nilIface, b, h => by cases b <;> simp [Qgu] at h; rfl
 | .agg a, b, h => by
  cases b <;> simp [Qgu] at h;rw [Q5t a _ h]
 | .tuple a, b, h => by
  cases b <;> simp [Qgu] at h;rw [Q5t a _ h]
theorem Q5t : ∀ (a b : List PV), Qe4 a b = true → a = b
 | [], b, h => by cases b <;> simp [Qe4] at h; rfl
 | x :: r, b, h => by
  cases b with
  | nil => simp [Qe4] at h
  | cons y s =>
   simp only [Qe4, Le] at h;rw [Qmj x y h.1, Q5t r s h.2]
theorem Qkc : ∀ (a b : List (List PV)), Qgg a b = true → a = b
 | [], b, h => by cases b <;> simp [Qgg] at h; rfl
 | x :: r, b, h => by
  cases b with
  | nil => simp [Qgg] at h
  | cons y s =>
   simp only [Qgg, Le] at h;rw [Q5t x y h.1, Qkc r s h.2]
end
mutual
def Qm0 : AV → AV → Bool
 | .p a, .p b => Qgu a b
 | .ptr a o, .ptr b p => Nat.beq a b && Nat.beq o p
 | .gptr a o, .gptr b p => Nat.beq a b && Nat.beq o p
 | .rptr a, .rptr b => Qe4 a b
 | .slice e a o l, .slice e' a' o' l' => Nat.beq e e' && (Nat.beq a a' && (Nat.beq o o' && Nat.beq l l'))
 | .map a, .map b => Nat.beq a b
 | .func (.func f) a b, .func (.func g) c d => Nat.beq f g && (Qfx a c && Qfx b d)
 | .iface t v, .iface t' v' => Nat.beq t t' && Qm0 v v'
 | .agg a, .agg b => Qfx a b
 | .tuple a, .tuple b => Qfx a b
 | .any, .any => true
 | _, _ => false
def Qfx : List AV → List AV → Bool
 | [], [] => true
 | a :: r, b :: s => Qm0 a b && Qfx r s
 | _, _ => false
end
mutual
theorem Qm3 : ∀ (a b : AV), Qm0 a b = true → a = b
 | .p a, b, h => by cases b <;> simp [Qm0] at h; rw [Qmj _ _ h]
 | .ptr a o, b, h => by cases b <;> simp [Qm0] at h; obtain ⟨rfl, rfl⟩ := h; rfl
 | .gptr a o, b, h => by cases b <;> simp [Qm0] at h; obtain ⟨rfl, rfl⟩ := h; rfl
 | .rptr a, b, h => by cases b <;> simp [Qm0] at h; rw [Q5t _ _ h]
 | .slice e a o l, b, h => by cases b <;> simp [Qm0] at h; obtain ⟨rfl, rfl, rfl, rfl⟩ := h; rfl
 | .map a, b, h => by cases b <;> simp [Qm0] at h; subst h; rfl
 | .func fn a c, b, h => by
  cases b <;> cases fn <;> try (simp [Qm0] at h; done)
  rename_i fn' a' c' f;cases fn' <;> simp [Qm0] at h;obtain ⟨rfl, h2, h3⟩ := h;rw [Q80 a _ h2, Q80 c _ h3]
 | .iface t v, b, h => by
  cases b <;> simp [Qm0] at h;obtain ⟨h1, h2⟩ := h;rw [Qm3 v _ h2, h1]
 | .agg a, b, h => by
  cases b <;> simp [Qm0] at h;rw [Q80 a _ h]
 | .tuple a, b, h => by
  cases b <;> simp [Qm0] at h;rw [Q80 a _ h]
 | .any, b, h => by cases b <;> simp [Qm0] at h; rfl
theorem Q80 : ∀ (a b : List AV), Qfx a b = true → a = b
 | [], b, h => by cases b <;> simp [Qfx] at h; rfl
 | x :: r, b, h => by
  cases b with
  | nil => simp [Qfx] at h
  | cons y s =>
   simp only [Qfx, Le] at h;rw [Qm3 x y h.1, Q80 r s h.2]
end
def Qqx : List (PV × AV) → List (PV × AV) → Bool
 | [], [] => true
 | (k, v) :: r, (k', v') :: s => Qgu k k' && (Qm0 v v' && Qqx r s)
 | _, _ => false
theorem Qny : ∀ (a b : List (PV × AV)), Qqx a b = true → a = b
 | [], [], _ => rfl
 | (k, v) :: r, (k', v') :: s, h => by
  simp only [Qqx, Le] at h;rw [Qmj k k' h.1, Qm3 v v' h.2.1, Qny r s h.2.2]
 | [], _ :: _, h => by simp [Qqx] at h
 | _ :: _, [], h => by simp [Qqx] at h
def Qzw : AObj → AObj → Bool
 | .map a, .map b => Qqx a b
 | .cells a, .cells b => Qfx a b
 | .strIter s p, .strIter t q => decide (s = t) && Nat.beq p q
 | .dead, .dead => true
 | _, _ => false
theorem Qvu (a b : AObj) (h : Qzw a b = true) : a = b := by
 cases a <;> cases b <;> simp [Qzw] at h
 ·rw [Q80 _ _ h]
 ·rw [Qny _ _ h]
 ·obtain ⟨rfl, rfl⟩ := h; rfl
 rfl
def Qv1 : List AObj → List AObj → Bool
 | [], _ => true
 | o :: r, o' :: r' => Qzw o o' && Qv1 r r'
 | _ :: _, [] => false
theorem Qox : ∀ (m H : List AObj), Qv1 m H = true → ∃ rest, H = m ++ rest
 | [], H, _ => ⟨H, rfl⟩
 | o :: r, o' :: r', h => by
  simp only [Qv1, Le] at h;obtain ⟨rest, e⟩ := Qox r r' h.2;exact ⟨rest, by rw [Qvu _ _ h.1, e]; rfl⟩
 | _ :: _, [], h => by simp [Qv1] at h
def Qkk : Nat → List AObj → AV → List Nat
 | 0, _, _ => []
 | n + 1, H, v => match v with
  | .ptr a _ => a :: refsDo n H (H[a]?)
  | .slice _ a _ _ => a :: refsDo n H (H[a]?)
  | .map a => a :: refsDo n H (H[a]?)
  | .func _ a b => a.flatMap (Qkk n H) ++ b.flatMap (Qkk n H)
  | .iface _ v => Qkk n H v
  | .agg cs => cs.flatMap (Qkk n H)
  | .tuple cs => cs.flatMap (Qkk n H)
  | _ => []
where refsDo (n : Nat) (H : List AObj) : Option AObj → List Nat
 | some (.cells cs) => cs.flatMap (Qkk n H)
 | some (.map es) => es.flatMap fun q => Qkk n H q.2
 | _ => []
end
end Go.Av
