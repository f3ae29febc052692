/- The law. Part of a proof of a given statement: for every input the law returns true and the arguments read as before; no condition beyond the given row. -/
import Derived.Test.YtmofajpflckpmaaGreatDoorAvOwn
import Derived.Test.YtmofajpflckpmaaGreatDoorLift2
import Derived.Test.YtmofajpflckpmaaGreatDoorLiftF3
namespace Go.Av
noncomputable section
section
variable {R A S T : Type}
def Tot (f : Nat → Option R) (r : R) : Prop := ∃ N0, ∀ N, N0 ≤ N → f N = some r
def TotP (f : Nat → Option R) (Q : R → Prop) : Prop := ∃ r, Q r ∧ Tot f r
theorem Tot.of {f : Nat → Option R} {r : R} (h : ∀ N, f N = some r) : Tot f r := ⟨0, fun N _ => h N⟩
theorem Tot.ret (r : R) : Tot (fun _ => some r) r := .of fun _ => rfl
theorem Tot.bind {f : Nat → Option A} {g : Nat → A → Option R} {v : A} {r : R} (h1 : Tot f v) (h2 : Tot (fun N => g N v) r) : Tot (fun N => (f N).bind (g N)) r := by
 obtain ⟨a, ha⟩ := h1
 obtain ⟨b, hb⟩ := h2
 exact ⟨max a b, fun N hN => by show (f N).bind (g N) = _; rw [ha N (by omega)]; exact hb N (by omega)⟩
theorem TotP.of {f : Nat → Option R} {r : R} {Q : R → Prop} (hq : Q r) (h : Tot f r) : TotP f Q := ⟨r, hq, h⟩
theorem TotP.ret {r : R} {Q : R → Prop} (h : Q r) : TotP (fun _ => some r) Q := ⟨r, h, .ret r⟩
theorem TotP.mono {f : Nat → Option R} {Q Q' : R → Prop} (h : TotP f Q) (hq : ∀ r, Q r → Q' r) : TotP f Q' := by
 obtain ⟨r, h1, h2⟩ := h; exact ⟨r, hq r h1, h2⟩
theorem TotP.tot {f : Nat → Option R} {r : R} (h : TotP f (· = r)) : Tot f r := by obtain ⟨x, rfl, h2⟩ := h; exact h2
theorem TotP.bind {f : Nat → Option A} {g : Nat → A → Option R} {V : A → Prop} {Q : R → Prop} (h1 : TotP f V) (h2 : ∀ v, V v → TotP (fun N => g N v) Q) : TotP (fun N => (f N).bind (g N)) Q := by
 obtain ⟨v, hv, t⟩ := h1
 obtain ⟨r, hr, u⟩ := h2 v hv
 exact ⟨r, hr, t.bind u⟩
theorem TotP.bindE {f : Nat → Option A} {g : Nat → A → Option R} {v : A} {Q : R → Prop} (h1 : Tot f v) (h2 : TotP (fun N => g N v) Q) : TotP (fun N => (f N).bind (g N)) Q := by
 obtain ⟨r, hr, u⟩ := h2
 exact ⟨r, hr, h1.bind u⟩
theorem TotP.cond {b : Bool} {f g : Nat → Option R} {Q : R → Prop} (h1 : b = true → TotP f Q) (h2 : b = false → TotP g Q) : TotP (fun N => cond b (f N) (g N)) Q := by
 cases b
 ·exact h2 rfl
 ·exact h1 rfl
theorem TotP.chk {b : Bool} {f : Nat → Option R} {Q : R → Prop} (hb : b = true) (h : TotP f Q) : TotP (fun N => _root_.cond b (f N) none) Q := by subst hb; exact h
theorem TotP.idx {l : List T} {i : Int} {y : T} {g : Nat → T → Option R} {Q : R → Prop} (h : idx l i = some y) (h2 : TotP (fun N => g N y) Q) : TotP (fun N => (Go.Av.idx l i).bind (g N)) Q :=
 .bindE (.of fun _ => h) h2
theorem TotP.optC {o : Option T} {f : Nat → T → Option R} {z : Nat → Option R} {Q : R → Prop} (h1 : ∀ v, o = some v → TotP (fun N => f N v) Q) (h2 : o = none → TotP z Q) : TotP (fun N => Go.Av.optC o (f N) (z N)) Q := by
 cases o with
 | none => exact h2 rfl
 | some v => exact h1 v rfl
def Stp (L : Nat → Nat → S → Option R) (P : S → Prop) (Q : R → Prop) (f : Nat → Nat → Option R) : Prop :=
 (∃ r N0, Q r ∧ ∀ N n, N0 ≤ N → f N n = some r) ∨ ∃ s N0, P s ∧ ∀ N n, N0 ≤ N → f N n = L N n s
section
variable {L : Nat → Nat → S → Option R} {P : S → Prop} {Q : R → Prop}
theorem Stp.fin {f : Nat → Option R} (h : TotP f Q) : Stp L P Q (fun N _ => f N) := by
 obtain ⟨r, h1, N0, h2⟩ := h; exact .inl ⟨r, N0, h1, fun N _ hN => h2 N hN⟩
theorem Stp.ret {r : R} (h : Q r) : Stp L P Q (fun _ _ => some r) := .inl ⟨r, 0, h, fun _ _ _ => rfl⟩
theorem Stp.go (s : S) (h : P s) : Stp L P Q (fun N n => L N n s) := .inr ⟨s, 0, h, fun _ _ _ => rfl⟩
theorem Stp.bind {f : Nat → Option A} {g : Nat → Nat → A → Option R} {V : A → Prop} (h1 : TotP f V) (h2 : ∀ v, V v → Stp L P Q (fun N n => g N n v)) : Stp L P Q (fun N n => (f N).bind (g N n)) := by
 obtain ⟨v, hv, a, ha⟩ := h1
 rcases h2 v hv with ⟨r, b, hr, hb⟩ | ⟨s, b, hs, hb⟩
 ·exact .inl ⟨r, max a b, hr, fun N n hN => by show (f N).bind _ = _; rw [ha N (by omega)]; exact hb N n (by omega)⟩
 ·exact .inr ⟨s, max a b, hs, fun N n hN => by show (f N).bind _ = _; rw [ha N (by omega)]; exact hb N n (by omega)⟩
theorem Stp.idx {l : List T} {i : Int} {y : T} {g : Nat → Nat → T → Option R} (h : idx l i = some y) (h2 : Stp L P Q (fun N n => g N n y)) : Stp L P Q (fun N n => (Go.Av.idx l i).bind (g N n)) :=
 .bind (f := fun _ => Go.Av.idx l i) (V := (· = y)) ⟨y, rfl, .of fun _ => h⟩ (fun v hv => by subst hv; exact h2)
theorem Stp.cond {b : Bool} {f g : Nat → Nat → Option R} (h1 : b = true → Stp L P Q f) (h2 : b = false → Stp L P Q g) : Stp L P Q (fun N n => cond b (f N n) (g N n)) := by
 cases b
 ·exact h2 rfl
 ·exact h1 rfl
theorem Stp.chk {b : Bool} {f : Nat → Nat → Option R} (hb : b = true) (h : Stp L P Q f) : Stp L P Q (fun N n => _root_.cond b (f N n) none) := by subst hb; exact h
theorem Qe4 (inv : S → Prop) (μ : S → Nat) (Qs : ∀ s, inv s → Stp L (fun s' => inv s' ∧ μ s' < μ s) Q (fun N n => L N (n + 1) s)) (s : S) (h : inv s) : TotP (fun N => L N N s) Q := by
 have key : ∀ (m : Nat) (s : S), μ s < m → inv s → ∃ r N0, Q r ∧ ∀ N n, N0 ≤ N → N0 ≤ n → L N n s = some r := by
  intro m
  induction m with
  | zero => intro s h; omega
  | succ m ih =>
   intro s hm hi
   rcases Qs s hi with ⟨r, N0, hr, hL⟩ | ⟨s', N0, ⟨h1, h2⟩, hL⟩
   ·refine ⟨r, N0 + 1, hr, fun N n h1 h2 => ?_⟩
    obtain ⟨k, rfl⟩ : ∃ k, n = k + 1 := ⟨n - 1, by omega⟩
    exact hL N k (by omega)
   ·obtain ⟨r, M0, hr, hM⟩ := ih s' (by omega) h1
    refine ⟨r, max N0 M0 + 1, hr, fun N n h1 h2 => ?_⟩
    obtain ⟨k, rfl⟩ : ∃ k, n = k + 1 := ⟨n - 1, by omega⟩
    exact (hL N k (by omega)).trans (hM N k (by omega) (by omega))
 obtain ⟨r, N0, hr, hL⟩ := key (μ s + 1) s (by omega) h
 exact ⟨r, hr, N0, fun N hN => hL N N hN hN⟩
end
theorem Qf3 {L : Nat → Nat → Int → Option R} {Q : R → Prop} (m : Nat) (J : Nat → Prop) (Qs : ∀ i, i < m → J i → Stp L (fun s => s = ((i + 1 : Nat) : Int) ∧ J (i + 1)) Q (fun N n => L N (n + 1) (i : Int)))
  (fin : J m → Stp L (fun _ => False) Q (fun N n => L N (n + 1) (m : Int))) (h0 : J 0) : TotP (fun N => L N N 0) Q := by
 refine Qe4 (S := Int) (fun s => ∃ i : Nat, s = (i : Int) ∧ i ≤ m ∧ J i) (fun s => m - s.toNat) ?_ 0 ⟨0, rfl, Nat.zero_le _, h0⟩
 rintro s ⟨i, rfl, hi, hj⟩
 by_cases h : i < m
 ·rcases Qs i h hj with ⟨r, N0, hr, hL⟩ | ⟨s', N0, ⟨rfl, h2⟩, hL⟩
  ·exact .inl ⟨r, N0, hr, hL⟩
  ·exact .inr ⟨_, N0, ⟨⟨i + 1, rfl, h, h2⟩, by simp only [Int.toNat_natCast]; omega⟩, hL⟩
 ·have : i = m := by omega
  subst this
  rcases fin hj with ⟨r, N0, hr, hL⟩ | ⟨s', N0, h2, hL⟩
  ·exact .inl ⟨r, N0, hr, hL⟩
  ·exact h2.elim
end
theorem Yg (x y : Int) : Qc .lss x y = decide (x < y) := rfl
theorem J2 (x y : Int) : Qc .leq x y = decide (x ≤ y) := rfl
theorem G9 (x y : Int) : Qc .gtr x y = decide (x > y) := rfl
theorem Uj (x y : Int) : Qc .geq x y = decide (x ≥ y) := rfl
theorem Wd (x y : Int) : Qc .eql x y = decide (x = y) := by unfold Qc; by_cases h : x = y <;> simp [h]
theorem Q2z (x y : Int) : Qc .neq x y = decide (x ≠ y) := by unfold Qc; by_cases h : x = y <;> simp [h]
theorem w64 (x : Int) (h : -9223372036854775808 ≤ x ∧ x ≤ 9223372036854775807) : IntKind.wrap .i64 x = x := IntWalk.i64_in x h
theorem Q1l {T : Type} {l : List T} {i : Nat} (h : i < l.length) : idx l (i : Int) = some l[i] := List.getElem?_eq_getElem h
theorem Q76 : maxLen ≤ 9223372036854775807 := by unfold maxLen; decide
end
end Go.Av
namespace Go.Av
noncomputable section
def at8 (s : List UInt8) (i : Nat) : Nat := (s.getD i 0).toNat
theorem Gt (s : List UInt8) (i : Nat) : at8 s i < 256 := UInt8.toNat_lt _
theorem Q00 {s : List UInt8} {i : Nat} (h : i < s.length) : at8 s i = (s[i]).toNat := by simp [at8, h]
def goes (s : List UInt8) (i : Nat) : Prop := i < s.length ∧ 128 ≤ at8 s i ∧ at8 s i < 192
instance (s : List UInt8) (i : Nat) : Decidable (goes s i) := inferInstanceAs (Decidable (_ ∧ _))
def Q1h (c : Nat) : Prop := ¬ (55296 ≤ c ∧ c ≤ 57343) ∧ c ≤ 1114111
instance (c : Nat) : Decidable (Q1h c) := inferInstanceAs (Decidable (_ ∧ _))
def Jg (s : List UInt8) (i : Nat) : Nat × Nat :=
 if at8 s i < 128 then (at8 s i, 1)
 else if 192 ≤ at8 s i ∧ at8 s i < 224 ∧ goes s (i + 1) ∧ 128 ≤ 64 * (at8 s i - 192) + (at8 s (i + 1) - 128) then (64 * (at8 s i - 192) + (at8 s (i + 1) - 128), 2)
 else if 224 ≤ at8 s i ∧ at8 s i < 240 ∧ goes s (i + 1) ∧ goes s (i + 2) ∧ 2048 ≤ 64 * (64 * (at8 s i - 224) + (at8 s (i + 1) - 128)) + (at8 s (i + 2) - 128) ∧ Q1h (64 * (64 * (at8 s i - 224) + (at8 s (i + 1) - 128)) + (at8 s (i + 2) - 128)) then
  (64 * (64 * (at8 s i - 224) + (at8 s (i + 1) - 128)) + (at8 s (i + 2) - 128), 3)
 else if 240 ≤ at8 s i ∧ at8 s i < 248 ∧ goes s (i + 1) ∧ goes s (i + 2) ∧ goes s (i + 3) ∧ 65536 ≤ 64 * (64 * (64 * (at8 s i - 240) + (at8 s (i + 1) - 128)) + (at8 s (i + 2) - 128)) + (at8 s (i + 3) - 128) ∧
   Q1h (64 * (64 * (64 * (at8 s i - 240) + (at8 s (i + 1) - 128)) + (at8 s (i + 2) - 128)) + (at8 s (i + 3) - 128)) then
  (64 * (64 * (64 * (at8 s i - 240) + (at8 s (i + 1) - 128)) + (at8 s (i + 2) - 128)) + (at8 s (i + 3) - 128), 4)
 else (65533, 1)
theorem Q74 (c : Nat) : Utf8.valid (c : Int) = true ↔ Q1h c := by
 unfold Utf8.valid Q1h
 simp only [Bool.and_eq_true, Bool.or_eq_true, Bool.not_eq_true', decide_eq_true_eq, decide_eq_false_iff_not]
 omega
theorem Qe5 (a b c d : Nat) (G1 G2 G3 : Prop) [Decidable G1] [Decidable G2] [Decidable G3] (h0 : a < 256) (q1 : G1 → 128 ≤ b ∧ b < 192) (q2 : G2 → 128 ≤ c ∧ c < 192) (q3 : G3 → 128 ≤ d ∧ d < 192) :
  (if a < 128 then (a, 1)
   else if (a / 32 == 6 && decide G1) = true then (if a % 32 * 64 + b % 64 ≥ 128 then (a % 32 * 64 + b % 64, 2) else (65533, 1))
   else if (a / 16 == 14 && decide G1 && decide G2) = true then (if (decide (a % 16 * 4096 + b % 64 * 64 + c % 64 ≥ 2048) && Utf8.valid ((a % 16 * 4096 + b % 64 * 64 + c % 64 : Nat) : Int)) = true then (a % 16 * 4096 + b % 64 * 64 + c % 64, 3) else (65533, 1))
   else if (a / 8 == 30 && decide G1 && decide G2 && decide G3) = true then (if (decide (a % 8 * 262144 + b % 64 * 4096 + c % 64 * 64 + d % 64 ≥ 65536) && Utf8.valid ((a % 8 * 262144 + b % 64 * 4096 + c % 64 * 64 + d % 64 : Nat) : Int)) = true then (a % 8 * 262144 + b % 64 * 4096 + c % 64 * 64 + d % 64, 4) else (65533, 1))
   else (65533, 1)) =
  (if a < 128 then (a, 1)
   else if 192 ≤ a ∧ a < 224 ∧ G1 ∧ 128 ≤ 64 * (a - 192) + (b - 128) then (64 * (a - 192) + (b - 128), 2)
   else if 224 ≤ a ∧ a < 240 ∧ G1 ∧ G2 ∧ 2048 ≤ 64 * (64 * (a - 224) + (b - 128)) + (c - 128) ∧ Q1h (64 * (64 * (a - 224) + (b - 128)) + (c - 128)) then (64 * (64 * (a - 224) + (b - 128)) + (c - 128), 3)
   else if 240 ≤ a ∧ a < 248 ∧ G1 ∧ G2 ∧ G3 ∧ 65536 ≤ 64 * (64 * (64 * (a - 240) + (b - 128)) + (c - 128)) + (d - 128) ∧ Q1h (64 * (64 * (64 * (a - 240) + (b - 128)) + (c - 128)) + (d - 128)) then
    (64 * (64 * (64 * (a - 240) + (b - 128)) + (c - 128)) + (d - 128), 4)
   else (65533, 1)) := by
 simp only [Bool.and_eq_true, decide_eq_true_eq, beq_iff_eq, Q74, ge_iff_le]
 have e2 : ∀ x, Q1h x = (¬ (55296 ≤ x ∧ x ≤ 57343) ∧ x ≤ 1114111) := fun x => rfl
 by_cases c1 : a < 128
 ·rw [if_pos c1, if_pos c1]
 rw [if_neg c1, if_neg c1]
 by_cases c2 : a < 192
 ·rw [if_neg (by omega), if_neg (by omega), if_neg (by omega), if_neg (by omega), if_neg (by omega), if_neg (by omega)]
 by_cases c3 : a < 224
 ·by_cases g1 : G1
  ·have := q1 g1
   have e : a % 32 * 64 + b % 64 = 64 * (a - 192) + (b - 128) := by omega
   rw [if_pos ⟨by omega, g1⟩, e]
   by_cases c4 : 128 ≤ 64 * (a - 192) + (b - 128)
   ·rw [if_pos c4, if_pos ⟨by omega, c3, g1, c4⟩]
   ·rw [if_neg c4, if_neg (fun h => c4 h.2.2.2), if_neg (by omega), if_neg (by omega)]
  ·rw [if_neg (fun h => g1 h.2), if_neg (by omega), if_neg (by omega), if_neg (fun h => g1 h.2.2.1), if_neg (by omega), if_neg (by omega)]
 rw [if_neg (by omega), if_neg (c := 192 ≤ a ∧ _) (by omega)]
 by_cases c5 : a < 240
 ·by_cases g : G1 ∧ G2
  ·have := q1 g.1
   have := q2 g.2
   have e : a % 16 * 4096 + b % 64 * 64 + c % 64 = 64 * (64 * (a - 224) + (b - 128)) + (c - 128) := by omega
   rw [if_pos ⟨⟨by omega, g.1⟩, g.2⟩, e]
   by_cases c4 : 2048 ≤ 64 * (64 * (a - 224) + (b - 128)) + (c - 128) ∧ Q1h (64 * (64 * (a - 224) + (b - 128)) + (c - 128))
   ·rw [if_pos c4, if_pos ⟨by omega, c5, g.1, g.2, c4⟩]
   ·rw [if_neg c4, if_neg (fun h => c4 h.2.2.2.2), if_neg (by omega)]
  ·rw [if_neg (fun h => g ⟨h.1.2, h.2⟩), if_neg (by omega), if_neg (fun h => g ⟨h.2.2.1, h.2.2.2.1⟩), if_neg (by omega)]
 rw [if_neg (by omega), if_neg (c := 224 ≤ a ∧ _) (by omega)]
 by_cases c6 : a < 248
 ·by_cases g : G1 ∧ G2 ∧ G3
  ·have := q1 g.1
   have := q2 g.2.1
   have := q3 g.2.2
   have e : a % 8 * 262144 + b % 64 * 4096 + c % 64 * 64 + d % 64 = 64 * (64 * (64 * (a - 240) + (b - 128)) + (c - 128)) + (d - 128) := by omega
   rw [if_pos ⟨⟨⟨by omega, g.1⟩, g.2.1⟩, g.2.2⟩, e]
   by_cases c4 : 65536 ≤ 64 * (64 * (64 * (a - 240) + (b - 128)) + (c - 128)) + (d - 128) ∧ Q1h (64 * (64 * (64 * (a - 240) + (b - 128)) + (c - 128)) + (d - 128))
   ·rw [if_pos c4, if_pos ⟨by omega, c6, g.1, g.2.1, g.2.2, c4⟩]
   ·rw [if_neg c4, if_neg (fun h => c4 h.2.2.2.2.2)]
  ·rw [if_neg (fun h => g ⟨h.1.1.2, h.1.2, h.2⟩), if_neg (fun h => g ⟨h.2.2.1, h.2.2.2.1, h.2.2.2.2.1⟩)]
 ·rw [if_neg (by omega), if_neg (by omega)]
theorem Qie (s : List UInt8) (j : Nat) : (decide (j < s.length) && (at8 s j / 64 == 2)) = decide (goes s j) := by
 have hk := Gt s j
 by_cases hg : goes s j
 ·have h4 : at8 s j / 64 = 2 := by have := hg.2; omega
  simp [hg, hg.1, h4]
 ·simp only [hg, decide_false, Bool.and_eq_false_iff, decide_eq_false_iff_not]
  by_cases hl : j < s.length
  ·right
   simp only [beq_eq_false_iff_ne, ne_eq]
   intro h4
   exact hg ⟨hl, by omega, by omega⟩
  ·exact .inl hl
theorem Qab (s : List UInt8) (i : Nat) : Q0z s i = Jg s i := by
 have u : ∀ j, (s.getD j 0).toNat = at8 s j := fun _ => rfl
 have := Qe5 (at8 s i) (at8 s (i + 1)) (at8 s (i + 2)) (at8 s (i + 3)) (goes s (i + 1)) (goes s (i + 2)) (goes s (i + 3)) (Gt _ _) (fun h => h.2) (fun h => h.2) (fun h => h.2)
 unfold Jg
 rw [← this]
 unfold Q0z
 simp only [Nat.add_zero, u, Qie]
 rfl
theorem Q9y (s : List UInt8) (i : Nat) (h : i < s.length) : 1 ≤ (Jg s i).2 ∧ i + (Jg s i).2 ≤ s.length ∧ ((Jg s i).1 < 128 ↔ at8 s i < 128) ∧ (at8 s i < 128 → (Jg s i).1 = at8 s i ∧ (Jg s i).2 = 1) ∧
  (∀ k, 1 ≤ k → k < (Jg s i).2 → 128 ≤ at8 s (i + k)) ∧ Q1h (Jg s i).1 := by
 have h0 := Gt s i
 unfold Jg
 split
 ·refine ⟨by simp, by simp; omega, by simp, fun _ => ⟨rfl, rfl⟩, fun k h1 h2 => by simp at h2; omega, by unfold Q1h; simp; omega⟩
 split
 ·rename_i h1 h2
  obtain ⟨_, _, g1, h3⟩ := h2
  refine ⟨by simp, by simp; have := g1.1; omega, by simp; omega, fun h => by omega, fun k h4 h5 => ?_, by unfold Q1h; simp only; have := g1.2; omega⟩
  have : k = 1 := by simp at h5; omega
  subst this; exact g1.2.1
 split
 ·rename_i h1 h2 h3
  obtain ⟨_, _, g1, g2, h3, h6⟩ := h3
  refine ⟨by simp, by simp; have := g2.1; omega, by simp; omega, fun h => by omega, fun k h4 h5 => ?_, h6⟩
  have : k = 1 ∨ k = 2 := by simp at h5; omega
  rcases this with rfl | rfl
  ·exact g1.2.1
  ·exact g2.2.1
 split
 ·rename_i h1 h2 h3 h4
  obtain ⟨_, _, g1, g2, g3, h3, h6⟩ := h4
  refine ⟨by simp, by simp; have := g3.1; omega, by simp; omega, fun h => by omega, fun k h4 h5 => ?_, h6⟩
  have : k = 1 ∨ k = 2 ∨ k = 3 := by simp at h5; omega
  rcases this with rfl | rfl | rfl
  ·exact g1.2.1
  ·exact g2.2.1
  ·exact g3.2.1
 ·rename_i h1 h2 h3 h4
  exact ⟨by simp, by simp; omega, by simp; omega, fun h => by omega, fun k h4 h5 => by simp at h5; omega, by unfold Q1h; simp⟩
def Qbs (s : List UInt8) (i : Nat) : Prop := Jg s i = (65533, 1)
instance (s : List UInt8) (i : Nat) : Decidable (Qbs s i) := inferInstanceAs (Decidable (_ = _))
def Q87 (s : List UInt8) (pos : Nat) : Option Nat :=
 if h : pos < s.length then (if (Jg s pos).1 = 0 ∨ Qbs s pos then some pos else Q87 s (pos + (Jg s pos).2)) else none
termination_by s.length - pos
decreasing_by have := (Q9y s pos h).1; omega
end
end Go.Av
namespace Go.Av
noncomputable section
open Go.Proofs
theorem Qg1 {b : UInt8} {n : Nat} (h : b.toNat = n) (hn : n < 256) : b = UInt8.ofNat n := by
 apply UInt8.toNat_inj.1; rw [h]; simp [UInt8.toNat_ofNat]; omega
theorem Qdb {s : List UInt8} {i : Nat} (hi : i < s.length) (hc : (Jg s i).1 = 65533) : (3 ≤ (s.drop i).length ∧ (s.drop i).take 3 = [239, 191, 189]) ↔ ¬ Qbs s i := by
 constructor
 ·rintro ⟨h1, h2⟩ hn
  have hl : i + 2 < s.length := by simp at h1; omega
  have g : ∀ k, k < 3 → s[i + k]? = ([239, 191, 189] : List UInt8)[k]? := by
   intro k hk
   rw [← h2, List.getElem?_take, if_pos hk, List.getElem?_drop]
  have a0 : at8 s i = 239 := by have := g 0 (by omega); simp at this; simp [at8, List.getD_eq_getElem?_getD, this]
  have a1 : at8 s (i + 1) = 191 := by have := g 1 (by omega); simp at this; simp [at8, List.getD_eq_getElem?_getD, this]
  have a2 : at8 s (i + 2) = 189 := by have := g 2 (by omega); simp at this; simp [at8, List.getD_eq_getElem?_getD, this]
  have g1 : goes s (i + 1) := ⟨by omega, by omega, by omega⟩
  have g2 : goes s (i + 2) := ⟨by omega, by omega, by omega⟩
  unfold Qbs Jg at hn
  rw [a0, a1, a2] at hn
  simp [g1, g2, Q1h] at hn
 ·intro hn
  have h0 := Gt s i
  unfold Qbs at hn
  unfold Jg at hn hc
  split at hn
  ·rename_i h1; rw [if_pos h1] at hc; simp at hc; omega
  rename_i h1; rw [if_neg h1] at hc
  split at hn
  ·rename_i h2
   rw [if_pos h2] at hc
   obtain ⟨_, _, g1, _⟩ := h2
   have := g1.2; simp at hc; omega
  rename_i h2; rw [if_neg h2] at hc
  split at hn
  ·rename_i h3
   rw [if_pos h3] at hc
   obtain ⟨_, _, g1, g2, _⟩ := h3
   have b1 := g1.2
   have b2 := g2.2
   have l2 := g2.1
   simp only at hc
   have a0 : at8 s i = 239 := by omega
   have a1 : at8 s (i + 1) = 191 := by omega
   have a2 : at8 s (i + 2) = 189 := by omega
   rw [Q00 (by omega)] at a0 a1 a2
   refine ⟨by simp; omega, ?_⟩
   apply List.ext_getElem?
   intro k
   rw [List.getElem?_take]
   by_cases hk : k < 3
   ·rw [if_pos hk, List.getElem?_drop]
    have : k = 0 ∨ k = 1 ∨ k = 2 := by omega
    rcases this with rfl | rfl | rfl
    ·rw [Nat.add_zero, List.getElem?_eq_getElem (by omega), Qg1 a0 (by omega)]; rfl
    ·rw [List.getElem?_eq_getElem (by omega), Qg1 a1 (by omega)]; rfl
    ·rw [List.getElem?_eq_getElem (by omega), Qg1 a2 (by omega)]; rfl
   ·rw [if_neg hk]; simp; omega
  rename_i h3; rw [if_neg h3] at hc
  split at hn
  ·rename_i h4
   rw [if_pos h4] at hc
   obtain ⟨_, _, g1, g2, g3, h5, h6⟩ := h4
   simp only at hc
   omega
  ·exact absurd rfl hn
theorem Qe9 (N : Nat) (s : List UInt8) : Xl N s = some (decide (3 ≤ s.length ∧ s.take 3 = [239, 191, 189])) := by
 unfold Xl
 rw [Uj]
 by_cases h : 3 ≤ s.length
 ·have h1 : decide ((s.length : Int) ≥ 3) = true := by simp; omega
  have h2 : (Nat.ble 0 3 && Nat.ble 3 s.length) = true := by simp [h]
  rw [h1, h2]
  simp only [cond_true, List.drop_zero, Q1u]
  congr 1
  by_cases h3 : s.take 3 = [239, 191, 189] <;> simp [h, h3]
 ·have h1 : decide ((s.length : Int) ≥ 3) = false := by simp; omega
  rw [h1]
  simp [h]
def Qh9 (o : Option Nat) : Int := match o with
 | some p => p
 | none => -1
theorem Qgl (s : List UInt8) : Tot (fun N => Vg N s) (Qh9 (Q87 s 0)) := by
 refine TotP.tot ?_
 show TotP (fun N => Zt N s N 0) _
 refine Qe4 (L := fun N n (p : Nat) => Zt N s n p) (fun p => Q87 s p = Q87 s 0) (fun p => s.length - p) (fun p hp => ?_) 0 rfl
 show Stp _ _ _ (fun N n => cond (Nat.blt p s.length) _ _)
 refine Stp.cond (fun h => ?_) (fun h => ?_)
 ·have hl : p < s.length := by simpa [Nat.blt_eq] using h
  rw [Qab]
  have hw := Q9y s p hl
  have hb : Q87 s p = (if (Jg s p).1 = 0 ∨ Qbs s p then some p else Q87 s (p + (Jg s p).2)) := by rw [Q87, dif_pos hl]
  rw [Wd, Wd]
  refine Stp.cond (fun h0 => ?_) (fun h0 => ?_)
  ·have h0 : (Jg s p).1 = 0 := by simpa using h0
   refine Stp.ret ?_
   rw [← hp, hb, if_pos (.inl h0)]; rfl
  have h0 : (Jg s p).1 ≠ 0 := by simpa using h0
  refine Stp.cond (fun h1 => ?_) (fun h1 => ?_)
  ·have h1 : (Jg s p).1 = 65533 := by have := of_decide_eq_true h1; omega
   refine Stp.chk (by simp; omega) ?_
   rw [List.take_length]
   refine Stp.bind (V := (· = decide (3 ≤ (s.drop p).length ∧ (s.drop p).take 3 = [239, 191, 189]))) ⟨_, rfl, .of fun N => Qe9 N _⟩ ?_
   rintro v rfl
   have hwi := Qdb hl h1
   refine Stp.cond (fun h2 => ?_) (fun h2 => ?_)
   ·have h2 : ¬ (3 ≤ (s.drop p).length ∧ (s.drop p).take 3 = [239, 191, 189]) := by
     have : (!decide (3 ≤ (s.drop p).length ∧ (s.drop p).take 3 = [239, 191, 189])) = true := h2
     simpa only [Bool.not_eq_true', decide_eq_false_iff_not] using this
    have h3 : Qbs s p := Classical.byContradiction fun h => h2 (hwi.2 h)
    refine Stp.ret ?_
    rw [← hp, hb, if_pos (.inr h3)]; rfl
   ·have h2 : (3 ≤ (s.drop p).length ∧ (s.drop p).take 3 = [239, 191, 189]) := by
     have : (!decide (3 ≤ (s.drop p).length ∧ (s.drop p).take 3 = [239, 191, 189])) = false := h2
     simpa only [Bool.not_eq_false', decide_eq_true_eq] using this
    refine Stp.go (p + (Jg s p).2) ⟨?_, by have := hw.1; have := hw.2.1; omega⟩
    rw [← hp, hb, if_neg]
    rintro (h | h)
    ·exact h0 h
    ·exact hwi.1 h2 h
  ·have h1 : (Jg s p).1 ≠ 65533 := by intro e; rw [e] at h1; simp at h1
   refine Stp.go (p + (Jg s p).2) ⟨?_, by have := hw.1; have := hw.2.1; omega⟩
   rw [← hp, hb, if_neg]
   rintro (h | h)
   ·exact h0 h
   ·unfold Qbs at h; rw [h] at h1; exact h1 rfl
 ·have hl : ¬ p < s.length := fun hlt => by
   have h' : Nat.blt p s.length = true := by rw [Nat.blt_eq]; exact hlt
   rw [h'] at h; cases h
  refine Stp.ret ?_
  rw [← hp, Q87, dif_neg hl]; rfl
def Q2a (s : List UInt8) : Bool := decide (s.length ≤ 65535) && (Q87 s 0).isNone
theorem Qea (o : Option Nat) : decide (Qh9 o = -1) = o.isNone := by
 cases o with
 | none => rfl
 | some p => simp [Qh9]
theorem Qc1 (s : List UInt8) : Tot (fun N => Y4 N s) (Q2a s) := by
 refine TotP.tot ?_
 show TotP (fun N => cond (Qc .leq (s.length : Int) 65535) _ _) _
 rw [J2]
 refine TotP.cond (fun h => ?_) (fun h => ?_)
 ·have h : s.length ≤ 65535 := by have := of_decide_eq_true h; omega
  refine TotP.bindE (Qgl s) (.ret ?_)
  rw [Wd, Qea]; simp [Q2a, h]
 ·have h : ¬ s.length ≤ 65535 := by have := of_decide_eq_false h; omega
  exact .ret (by simp [Q2a, h])
end
end Go.Av
namespace Go.Av
noncomputable section
open Go.Proofs
theorem Qdw (s : List UInt8) : Tot (fun N => U5 N s) (decide (s ≠ []) && Q2a s) := by
 refine TotP.tot ?_
 show TotP (fun N => cond (Q1u .neq s []) _ _) _
 have e : Q1u .neq s [] = decide (s ≠ []) := by cases s <;> rfl
 rw [e]
 refine TotP.cond (fun h => ?_) (fun h => ?_)
 ·exact .bindE (Qc1 s) (.ret (by rw [h]; rfl))
 ·exact .ret (by rw [h]; rfl)
theorem Qcj (c : UInt8) : ∀ (l : List UInt8) (i : Nat), (0 ≤ Q90 l c i) ↔ c ∈ l
 | [], i => by simp [Q90]
 | b :: l, i => by
  unfold Q90
  by_cases h : b == c
  ·rw [if_pos h]; have := eq_of_beq h; subst this; simp
  ·rw [if_neg h, Qcj c l (i + 1)]
   have : ¬ c = b := fun e => h (by simp [e])
   simp [this]
theorem Qg8 {c : Nat} (h : Q1h c) (h1 : 128 ≤ c) : ∃ l : List UInt8, (Utf8.encode (c : Int)).data.toList = l ∧ 2 ≤ l.length ∧ l.length ≤ 4 ∧ ∀ b ∈ l, 128 ≤ b.toNat := by
 have hv := (Q74 c).2 h
 unfold Utf8.encode
 simp only [hv, if_true, Int.toNat_natCast]
 have h2 := h.2
 have m : ∀ n, n < 256 → 128 ≤ n → 128 ≤ (UInt8.ofNat n).toNat := fun n a b => by rw [UInt8.toNat_ofNat']; omega
 rw [if_neg (by omega)]
 split
 ·refine ⟨_, rfl, by simp, by simp, fun b hb => ?_⟩
  simp only [List.mem_cons, List.not_mem_nil, or_false] at hb
  rcases hb with rfl | rfl <;> exact m _ (by omega) (by omega)
 split
 ·refine ⟨_, rfl, by simp, by simp, fun b hb => ?_⟩
  simp only [List.mem_cons, List.not_mem_nil, or_false] at hb
  rcases hb with rfl | rfl | rfl <;> exact m _ (by omega) (by omega)
 ·refine ⟨_, rfl, by simp, by simp, fun b hb => ?_⟩
  simp only [List.mem_cons, List.not_mem_nil, or_false] at hb
  rcases hb with rfl | rfl | rfl | rfl <;> exact m _ (by omega) (by omega)
theorem Qed (M : Nat) : Qw (M + 3) [43, 35] (M + 3) 0 = some (-1) := by
 have e1 : Q0z [43, 35] 0 = (43, 1) := by decide
 have e2 : Q0z [43, 35] (0 + 1) = (35, 1) := by decide
 have b0 : Nat.blt 0 ([43, 35] : List UInt8).length = true := rfl
 have b1 : Nat.blt (0 + 1) ([43, 35] : List UInt8).length = true := rfl
 have b2 : Nat.blt (0 + 1 + 1) ([43, 35] : List UInt8).length = false := rfl
 have c1 : Qc .eql ((43 : Nat) : Int) 65533 = false := by decide
 have c2 : Qc .eql ((35 : Nat) : Int) 65533 = false := by decide
 rw [Qw, e1, b0, cond_true, c1, cond_false, Qw, e2, b1, cond_true, c2, cond_false, Qw, b2, cond_false]
theorem Qgq {c : Nat} (hc : Q1h c) (N : Nat) : Za N (c : Int) = some true := by
 unfold Za
 simp only [J2, Yg]
 obtain ⟨k1, k2⟩ := hc
 rw [decide_eq_true (show (0 : Int) ≤ (c : Int) by omega)]
 by_cases h5 : (c : Int) < 55296
 ·rw [decide_eq_true h5]; rfl
 ·have h6 : (57343 : Int) < (c : Int) := by omega
  have h7 : (c : Int) ≤ 1114111 := by omega
  rw [decide_eq_false h5, decide_eq_true h6, decide_eq_true h7]; rfl
theorem Qex {c : Nat} (hc : Q1h c) (h : 128 ≤ c) (M : Nat) : Zg (M + 1) [43, 35] (c : Int) (M + 1) = some (-1) := by
 obtain ⟨l, hl, l1, l2, l3⟩ := Qg8 hc h
 rw [Zg]
 simp only [hl, Yg, Q2z]
 have ew : IntKind.wrap .i64 ((l.length : Int) - 1) = ((l.length - 1 : Nat) : Int) := by rw [w64 _ (by omega)]; omega
 rw [ew]
 by_cases h2 : l.length = 2
 ·have e1 : ((l.length - 1 : Nat) : Int) = ((1 : Nat) : Int) := by rw [h2]
  rw [e1]
  have e2 : idx l ((1 : Nat) : Int) = some l[1] := Q1l (by omega)
  have e3 := l3 l[1] (List.getElem_mem _)
  generalize l[1] = y at e2 e3
  have e4 : decide (((35 : UInt8).toNat : Int) ≠ (y.toNat : Int)) = true := by
   have : (35 : UInt8).toNat = 35 := rfl
   simp only [ne_eq, decide_eq_true_eq]; omega
  have e5 : idx ([43, 35] : List UInt8) ((1 : Nat) : Int) = some 35 := rfl
  have e6 : IntKind.wrap .i64 (((1 : Nat) : Int) + 1) = 2 := by decide
  have e7 : decide (((1 : Nat) : Int) < ((([43, 35] : List UInt8).length : Nat) : Int)) = true := by decide
  have e8 : decide ((0 : Int) ≤ 2) = true := by decide
  rw [e7, cond_true, e5, Option.bind_some, e2, Option.bind_some, e4, cond_true, e6, e8, cond_true]
  have e9 : (Nat.ble (Int.toNat 2) ([43, 35] : List UInt8).length && Nat.ble ([43, 35] : List UInt8).length ([43, 35] : List UInt8).length) = true := by decide
  rw [e9, cond_true, Option.bind_some]
  rfl
 ·have e1 : decide (((l.length - 1 : Nat) : Int) < ((([43, 35] : List UInt8).length : Nat) : Int)) = false := by
   simp; omega
  rw [e1]; rfl
theorem Q5x {c : Nat} (hc : Q1h c) : TotP (fun N => X4 N [43, 35] (c : Int)) (fun v => decide (v ≥ 0) = decide (c = 43 ∨ c = 35)) := by
 show TotP (fun N => cond (Qc .leq 0 (c : Int)) _ _) _
 have e0 : Qc .leq 0 (c : Int) = true := by rw [J2]; simp
 rw [e0]
 refine TotP.cond (fun _ => ?_) (fun h => by cases h)
 rw [Yg, Wd]
 refine TotP.cond (fun h => ?_) (fun h => ?_)
 ·have h : c < 128 := by have := of_decide_eq_true h; omega
  have ew : IntKind.wrap .u8 (c : Int) = c := by
   rw [IntWalk.u8_in]; omega
  refine TotP.bindE (v := Q90 [43, 35] (UInt8.ofNat c) 0) (.of fun N => ?_) (.ret ?_)
  ·show ((Zd N [43, 35] _).bind fun v => some v) = _
   rw [ew]; rfl
  ·have := Qcj (UInt8.ofNat c) [43, 35] 0
   rw [decide_eq_decide]
   show (0 ≤ _) ↔ _
   rw [this]
   have e1 : ∀ n, n < 256 → (UInt8.ofNat c = UInt8.ofNat n ↔ c = n) := fun n hn => by
    rw [← UInt8.toNat_inj, UInt8.toNat_ofNat', UInt8.toNat_ofNat']; omega
   have a := e1 43 (by omega)
   have b := e1 35 (by omega)
   simp only [List.mem_cons, List.not_mem_nil, or_false]
   exact or_congr a b
 have h : 128 ≤ c := by have := of_decide_eq_false h; omega
 have hn : decide (c = 43 ∨ c = 35) = false := by simp; omega
 refine TotP.cond (fun h1 => ?_) (fun h1 => ?_)
 ·-- bytes that are none
  refine ⟨-1, by rw [hn]; rfl, 3, fun N hN => ?_⟩
  obtain ⟨M, rfl⟩ : ∃ M, N = M + 3 := ⟨N - 3, by omega⟩
  exact Qed M
 refine TotP.bindE (.of (Qgq hc)) ?_
 refine TotP.cond (fun h => by cases h) (fun _ => ?_)
 refine ⟨-1, by rw [hn]; rfl, 1, fun N hN => ?_⟩
 obtain ⟨M, rfl⟩ : ∃ M, N = M + 1 := ⟨N - 1, by omega⟩
 exact Qex hc h M
end
end Go.Av
namespace Go.Av
noncomputable section
open Go.Proofs
def Qen (s : List UInt8) : Bool := s.any fun b => b.toNat == 43 || b.toNat == 35
theorem Qf7 {s : List UInt8} {j : Nat} (hj : j < s.length) (h : at8 s j = 43 ∨ at8 s j = 35) : Qen s = true := by
 unfold Qen
 rw [List.any_eq_true]
 refine ⟨s[j], List.getElem_mem _, ?_⟩
 rw [Q00 hj] at h
 rcases h with h | h <;> simp [h]
theorem Qfo {s : List UInt8} (h : ∀ j, j < s.length → at8 s j ≠ 43 ∧ at8 s j ≠ 35) : Qen s = false := by
 unfold Qen
 rw [List.any_eq_false]
 intro b hb
 obtain ⟨j, hj, rfl⟩ := List.getElem_of_mem hb
 have := h j hj
 rw [Q00 hj] at this
 simp [this.1, this.2]
def asciiS : List Bool := (List.range 256).map fun n => n == 43 || n == 35
theorem Qcd (n : Nat) (h : n < 256) : idx asciiS (n : Int) = some (n == 43 || n == 35) := by
 have hl : n < asciiS.length := by simp [asciiS]; exact h
 rw [Q1l hl]; simp [asciiS]
set_option maxRecDepth 20000 in
theorem Q6x (s : List UInt8) (hs : s.length ≤ maxLen) : TotP (fun N => Yl N s) (fun v => decide (v ≥ 0) = Qen s) := by
 have hm := Q76
 show TotP (fun N => cond (Q1u .eql [43, 35] []) _ _) _
 refine TotP.cond (fun h => by cases h) (fun _ => ?_)
 refine TotP.bindE (v := decide ((s.length : Int) > 8)) (.of fun N => rfl) ?_
 refine TotP.cond (fun _ => ?_) (fun _ => ?_)
 ·refine Qf3 (L := fun N n i => Zb N s n i) s.length (fun i => ∀ j, j < i → at8 s j ≠ 43 ∧ at8 s j ≠ 35) (fun i hi hj => ?_) (fun hj => ?_) (fun j hj => by omega)
  ·show Stp _ _ _ (fun N n => cond (Qc .lss (i : Int) (s.length : Int)) _ _)
   refine Stp.cond (fun _ => ?_) (fun h => by rw [Yg] at h; have := of_decide_eq_false h; omega)
   refine Stp.idx (Q1l hi) ?_
   have hb := UInt8.toNat_lt s[i]
   refine Stp.chk (by simp; omega) ?_
   refine Stp.idx (Qcd _ (by omega)) ?_
   refine Stp.cond (fun h => ?_) (fun h => ?_)
   ·refine Stp.ret ?_
    rw [Qf7 hi (by rw [Q00 hi]; simpa using h)]
    simp
   ·rw [w64 _ (by omega)]
    refine Stp.go _ ⟨by omega, fun j hj' => ?_⟩
    by_cases e : j = i
    ·subst e; rw [Q00 hi]; simpa using h
    ·exact hj j (by omega)
  ·show Stp _ _ _ (fun N n => cond (Qc .lss (s.length : Int) (s.length : Int)) _ _)
   refine Stp.cond (fun h => by rw [Yg] at h; have := of_decide_eq_true h; omega) (fun _ => ?_)
   refine Stp.ret ?_
   rw [Qfo hj]; rfl
 ·refine Qe4 (L := fun N n (p : Nat) => Zc N s n p) (fun p => ∀ j, j < p → at8 s j ≠ 43 ∧ at8 s j ≠ 35) (fun p => s.length - p) (fun p hp => ?_) 0 (fun j hj => by omega)
  show Stp _ _ _ (fun N n => cond (Nat.blt p s.length) _ _)
  refine Stp.cond (fun h => ?_) (fun h => ?_)
  ·have hl : p < s.length := by simpa [Nat.blt_eq] using h
   rw [Qab]
   obtain ⟨w1, w2, w3, w4, w5, w6⟩ := Q9y s p hl
   refine Stp.bind (Q5x w6) ?_
   intro v hv
   rw [Uj, hv]
   refine Stp.cond (fun h => ?_) (fun h => ?_)
   ·have h := of_decide_eq_true h
    have h128 : at8 s p < 128 := w3.1 (by omega)
    refine Stp.ret ?_
    rw [Qf7 hl (by rw [← (w4 h128).1]; exact h)]
    simp
   ·have h := of_decide_eq_false h
    refine Stp.go _ ⟨fun j hj => ?_, by omega⟩
    by_cases e : j < p
    ·exact hp j e
    by_cases e2 : j = p
    ·subst e2
     by_cases h128 : at8 s j < 128
     ·rw [(w4 h128).1] at h; omega
     ·omega
    ·have := w5 (j - p) (by omega) (by omega)
     rw [show p + (j - p) = j by omega] at this
     omega
  ·refine Stp.ret ?_
   rw [Qfo (fun j hj => hp j ?_)]
   ·rfl
   ·have : ¬ p < s.length := fun hlt => by
     have h' : Nat.blt p s.length = true := by rw [Nat.blt_eq]; exact hlt
     rw [h'] at h; cases h
    omega
theorem Q7d (s : List UInt8) (hs : s.length ≤ maxLen) : Tot (fun N => Y9 N s) (Qen s) := by
 refine TotP.tot ?_
 refine TotP.bind (Q6x s hs) (fun v hv => .ret ?_)
 rw [Uj]; exact hv
def Q47 (s : List UInt8) : Bool := decide (s ≠ []) && Q2a s && !Qen s
theorem Q9h (s : List UInt8) (hs : s.length ≤ maxLen) : Tot (fun N => X2 N s) (Q47 s) := by
 refine TotP.tot ?_
 refine TotP.bindE (Qdw s) ?_
 refine TotP.cond (fun h => ?_) (fun h => ?_)
 ·refine TotP.bindE (Q7d s hs) (.ret ?_)
  unfold Q47; rw [h]; rfl
 ·exact .ret (by unfold Q47; rw [h]; rfl)
end
end Go.Av
namespace Go.Av
noncomputable section
open Go.Proofs
theorem Qwh (x : Nat) (h : x ≤ 9223372036854775807) : IntKind.wrap .i64 (x : Int) = x := w64 _ (by omega)
theorem Q93 (N : Nat) (s : List UInt8) (j : Nat) : Qv N s (j : Int) = some (if goes s j then (((at8 s j - 128 : Nat) : Int), true) else (0, false)) := by
 unfold Qv
 rw [Uj]
 by_cases hj : j < s.length
 ·have hb := UInt8.toNat_lt s[j]
  rw [decide_eq_false (show ¬ ((j : Int) ≥ (s.length : Int)) by omega), cond_false, Q1l hj, Option.bind_some, Yg, Option.bind_some, G9, Option.bind_some]
  have e := Q00 hj
  by_cases h1 : at8 s j < 128
  ·rw [decide_eq_true (by omega), cond_true, if_neg (fun h => by have := h.2.1; omega)]
  rw [decide_eq_false (by omega), cond_false]
  by_cases h2 : at8 s j < 192
  ·rw [decide_eq_false (by omega), cond_false, if_pos ⟨hj, by omega, h2⟩, w64 ((s[j]).toNat : Int) (by omega), w64 _ (by omega)]
   congr 2; omega
  ·rw [decide_eq_true (by omega), cond_true, if_neg (fun h => h2 h.2.2)]
 ·rw [decide_eq_true (show ((j : Int) ≥ (s.length : Int)) by omega), cond_true, if_neg (fun h => hj h.1)]
theorem Qiy (N : Nat) (s : List UInt8) (i n x k : Nat) (hk : k < 2) (hx : x < 1099511627776) (hi : i ≤ 4611686018427387904) : Qn N s (i : Int) (n + 1) (x : Int) (k : Int) =
  if goes s (i + k) then Qn N s (i : Int) n ((64 * x + (at8 s (i + k) - 128) : Nat) : Int) ((k + 1 : Nat) : Int) else some (0, 0) := by
 have hb := Gt s (i + k)
 rw [Qn, Yg, decide_eq_true (by omega), cond_true, show IntKind.wrap .i64 ((i : Int) + (k : Int)) = ((i + k : Nat) : Int) by rw [w64 _ (by omega)]; omega, Q93, Option.bind_some]
 by_cases g : goes s (i + k)
 ·rw [if_pos g, if_pos g]
  show Qn N s (i : Int) n (IntKind.wrap .i64 (IntKind.wrap .i64 (64 * (x : Int)) + ((at8 s (i + k) - 128 : Nat) : Int))) (IntKind.wrap .i64 ((k : Int) + 1)) = _
  rw [w64 (64 * (x : Int)) (by omega), w64 _ (by omega), w64 _ (by omega)]
  congr 1
 ·rw [if_neg g, if_neg g]; rfl
theorem Qib (N : Nat) (s : List UInt8) (i n x : Nat) : Qn N s (i : Int) (n + 1) (x : Int) ((2 : Nat) : Int) = if 128 ≤ x ∧ Q1h x then some ((x : Int), 2) else some (0, 0) := by
 rw [Qn, Yg, decide_eq_false (by omega), cond_false, Yg, G9, Uj, J2]
 unfold Q1h
 by_cases h1 : x < 128
 ·rw [decide_eq_true (by omega), cond_true, if_neg (by omega)]
 rw [decide_eq_false (show ¬ ((x : Int) < 128) by omega), cond_false]
 by_cases h2 : x ≤ 1114111
 ·rw [decide_eq_false (show ¬ ((x : Int) > 1114111) by omega), cond_false]
  by_cases h3 : 55296 ≤ x
  ·rw [decide_eq_true (show ((x : Int) ≥ 55296) by omega), cond_true]
   by_cases h4 : x ≤ 57343
   ·rw [decide_eq_true (show ((x : Int) ≤ 57343) by omega), cond_true, if_neg (by omega)]
   ·rw [decide_eq_false (show ¬ ((x : Int) ≤ 57343) by omega), cond_false, if_pos (by omega)]
  ·rw [decide_eq_false (show ¬ ((x : Int) ≥ 55296) by omega), cond_false, if_pos (by omega)]
 ·rw [decide_eq_true (show ((x : Int) > 1114111) by omega), cond_true, if_neg (by omega)]
theorem Qhx (N : Nat) (s : List UInt8) (i n x k : Nat) (hk : k < 3) (hx : x < 1099511627776) (hi : i ≤ 4611686018427387904) : Qo N s (i : Int) (n + 1) (x : Int) (k : Int) =
  if goes s (i + k) then Qo N s (i : Int) n ((64 * x + (at8 s (i + k) - 128) : Nat) : Int) ((k + 1 : Nat) : Int) else some (0, 0) := by
 have hb := Gt s (i + k)
 rw [Qo, Yg, decide_eq_true (by omega), cond_true, show IntKind.wrap .i64 ((i : Int) + (k : Int)) = ((i + k : Nat) : Int) by rw [w64 _ (by omega)]; omega, Q93, Option.bind_some]
 by_cases g : goes s (i + k)
 ·rw [if_pos g, if_pos g]
  show Qo N s (i : Int) n (IntKind.wrap .i64 (IntKind.wrap .i64 (64 * (x : Int)) + ((at8 s (i + k) - 128 : Nat) : Int))) (IntKind.wrap .i64 ((k : Int) + 1)) = _
  rw [w64 (64 * (x : Int)) (by omega), w64 _ (by omega), w64 _ (by omega)]
  congr 1
 ·rw [if_neg g, if_neg g]; rfl
theorem Qii (N : Nat) (s : List UInt8) (i n x : Nat) : Qo N s (i : Int) (n + 1) (x : Int) ((3 : Nat) : Int) = if 2048 ≤ x ∧ Q1h x then some ((x : Int), 3) else some (0, 0) := by
 rw [Qo, Yg, decide_eq_false (by omega), cond_false, Yg, G9, Uj, J2]
 unfold Q1h
 by_cases h1 : x < 2048
 ·rw [decide_eq_true (by omega), cond_true, if_neg (by omega)]
 rw [decide_eq_false (show ¬ ((x : Int) < 2048) by omega), cond_false]
 by_cases h2 : x ≤ 1114111
 ·rw [decide_eq_false (show ¬ ((x : Int) > 1114111) by omega), cond_false]
  by_cases h3 : 55296 ≤ x
  ·rw [decide_eq_true (show ((x : Int) ≥ 55296) by omega), cond_true]
   by_cases h4 : x ≤ 57343
   ·rw [decide_eq_true (show ((x : Int) ≤ 57343) by omega), cond_true, if_neg (by omega)]
   ·rw [decide_eq_false (show ¬ ((x : Int) ≤ 57343) by omega), cond_false, if_pos (by omega)]
  ·rw [decide_eq_false (show ¬ ((x : Int) ≥ 55296) by omega), cond_false, if_pos (by omega)]
 ·rw [decide_eq_true (show ((x : Int) > 1114111) by omega), cond_true, if_neg (by omega)]
theorem Qfz (N : Nat) (s : List UInt8) (i n x k : Nat) (hk : k < 4) (hx : x < 1099511627776) (hi : i ≤ 4611686018427387904) : Qp N s (i : Int) (n + 1) (x : Int) (k : Int) =
  if goes s (i + k) then Qp N s (i : Int) n ((64 * x + (at8 s (i + k) - 128) : Nat) : Int) ((k + 1 : Nat) : Int) else some (0, 0) := by
 have hb := Gt s (i + k)
 rw [Qp, Yg, decide_eq_true (by omega), cond_true, show IntKind.wrap .i64 ((i : Int) + (k : Int)) = ((i + k : Nat) : Int) by rw [w64 _ (by omega)]; omega, Q93, Option.bind_some]
 by_cases g : goes s (i + k)
 ·rw [if_pos g, if_pos g]
  show Qp N s (i : Int) n (IntKind.wrap .i64 (IntKind.wrap .i64 (64 * (x : Int)) + ((at8 s (i + k) - 128 : Nat) : Int))) (IntKind.wrap .i64 ((k : Int) + 1)) = _
  rw [w64 (64 * (x : Int)) (by omega), w64 _ (by omega), w64 _ (by omega)]
  congr 1
 ·rw [if_neg g, if_neg g]; rfl
theorem Qht (N : Nat) (s : List UInt8) (i n x : Nat) : Qp N s (i : Int) (n + 1) (x : Int) ((4 : Nat) : Int) = if 65536 ≤ x ∧ Q1h x then some ((x : Int), 4) else some (0, 0) := by
 rw [Qp, Yg, decide_eq_false (by omega), cond_false, Yg, G9, Uj, J2]
 unfold Q1h
 by_cases h1 : x < 65536
 ·rw [decide_eq_true (by omega), cond_true, if_neg (by omega)]
 rw [decide_eq_false (show ¬ ((x : Int) < 65536) by omega), cond_false]
 by_cases h2 : x ≤ 1114111
 ·rw [decide_eq_false (show ¬ ((x : Int) > 1114111) by omega), cond_false]
  by_cases h3 : 55296 ≤ x
  ·rw [decide_eq_true (show ((x : Int) ≥ 55296) by omega), cond_true]
   by_cases h4 : x ≤ 57343
   ·rw [decide_eq_true (show ((x : Int) ≤ 57343) by omega), cond_true, if_neg (by omega)]
   ·rw [decide_eq_false (show ¬ ((x : Int) ≤ 57343) by omega), cond_false, if_pos (by omega)]
  ·rw [decide_eq_false (show ¬ ((x : Int) ≥ 55296) by omega), cond_false, if_pos (by omega)]
 ·rw [decide_eq_true (show ((x : Int) > 1114111) by omega), cond_true, if_neg (by omega)]
def ptF (q : Nat × Nat) : Int × Int := if q.1 = 65533 ∧ q.2 = 1 then (0, 0) else ((q.1 : Int), (q.2 : Int))
theorem Q70 {c w : Nat} (h : ¬ (c = 65533 ∧ w = 1)) : ptF (c, w) = ((c : Int), (w : Int)) := if_neg h
theorem Jh : ptF (65533, 1) = (0, 0) := if_pos ⟨rfl, rfl⟩
def ptR (s : List UInt8) (i : Nat) : Int × Int := ptF (Jg s i)
theorem Qec (s : List UInt8) (i : Nat) (hi : i < s.length) (hs : s.length ≤ 4611686018427387904) (M : Nat) : Zk (M + 5) s (i : Int) = some (ptR s i) := by
 have hb := Gt s i
 have hb1 := Gt s (i + 1)
 have hb2 := Gt s (i + (1 + 1))
 have e := Q00 hi
 have hw : IntKind.wrap .i64 ((s[i]).toNat : Int) = (at8 s i : Int) := by rw [← e]; exact Qwh _ (by omega)
 unfold Zk
 rw [Q1l hi, Option.bind_some, hw]
 simp only [Yg, Uj]
 unfold ptR Jg
 by_cases c1 : at8 s i < 128
 ·rw [decide_eq_true (by omega), cond_true, if_pos c1, Q70 (by omega)]
  rfl
 rw [decide_eq_false (show ¬ ((at8 s i : Int) < 128) by omega), cond_false, if_neg c1]
 by_cases c2 : at8 s i < 192
 ·rw [decide_eq_false (show ¬ ((at8 s i : Int) ≥ 192) by omega), cond_false, decide_eq_false (show ¬ ((at8 s i : Int) ≥ 224) by omega), cond_false, decide_eq_false (show ¬ ((at8 s i : Int) ≥ 240) by omega), cond_false,
   if_neg (by omega), if_neg (by omega), if_neg (by omega), Jh]
 rw [decide_eq_true (show ((at8 s i : Int) ≥ 192) by omega), cond_true]
 by_cases c3 : at8 s i < 224
 ·rw [decide_eq_true (show ((at8 s i : Int) < 224) by omega), cond_true, if_neg (c := 224 ≤ at8 s i ∧ _) (by omega), if_neg (c := 240 ≤ at8 s i ∧ _) (by omega)]
  have h0 : IntKind.wrap .i64 ((at8 s i : Int) - 192) = ((at8 s i - 192 : Nat) : Int) := by rw [w64 _ (by omega)]; omega
  rw [h0, show (1 : Int) = ((1 : Nat) : Int) from rfl, Qiy _ _ _ _ _ _ (by omega) (by omega) (by omega)]
  by_cases g1 : goes s (i + 1)
  ·rw [if_pos g1, show 1 + 1 = 2 from rfl, Qib]
   have hg := g1.2
   by_cases c4 : 128 ≤ 64 * (at8 s i - 192) + (at8 s (i + 1) - 128)
   ·rw [if_pos ⟨c4, by unfold Q1h; omega⟩, if_pos ⟨by omega, c3, g1, c4⟩, Q70 (by omega)]; rfl
   ·rw [if_neg (fun h => c4 h.1), if_neg (fun h => c4 h.2.2.2), Jh]
  ·rw [if_neg g1, if_neg (fun h => g1 h.2.2.1), Jh]
 rw [decide_eq_false (show ¬ ((at8 s i : Int) < 224) by omega), cond_false, decide_eq_true (show ((at8 s i : Int) ≥ 224) by omega), cond_true, if_neg (c := 192 ≤ at8 s i ∧ _) (by omega)]
 by_cases c5 : at8 s i < 240
 ·rw [decide_eq_true (show ((at8 s i : Int) < 240) by omega), cond_true, if_neg (c := 240 ≤ at8 s i ∧ _) (by omega)]
  have h0 : IntKind.wrap .i64 ((at8 s i : Int) - 224) = ((at8 s i - 224 : Nat) : Int) := by rw [w64 _ (by omega)]; omega
  rw [h0, show (1 : Int) = ((1 : Nat) : Int) from rfl, Qhx _ _ _ _ _ _ (by omega) (by omega) (by omega)]
  by_cases g1 : goes s (i + 1)
  ·have hg1 := g1.2
   rw [if_pos g1, Qhx _ _ _ _ _ _ (by omega) (by omega) (by omega)]
   by_cases g2 : goes s (i + 2)
   ·have hg2 := g2.2
    rw [if_pos g2, show 1 + 1 + 1 = 3 from rfl, Qii]
    by_cases c4 : 2048 ≤ 64 * (64 * (at8 s i - 224) + (at8 s (i + 1) - 128)) + (at8 s (i + 2) - 128) ∧ Q1h (64 * (64 * (at8 s i - 224) + (at8 s (i + 1) - 128)) + (at8 s (i + 2) - 128))
    ·rw [if_pos c4, if_pos ⟨by omega, c5, g1, g2, c4⟩, Q70 (by omega)]; rfl
    ·rw [if_neg c4, if_neg (fun h => c4 h.2.2.2.2), Jh]
   ·rw [if_neg g2, if_neg (fun h => g2 h.2.2.2.1), Jh]
  ·rw [if_neg g1, if_neg (fun h => g1 h.2.2.1), Jh]
 rw [decide_eq_false (show ¬ ((at8 s i : Int) < 240) by omega), cond_false, decide_eq_true (show ((at8 s i : Int) ≥ 240) by omega), cond_true, if_neg (c := 224 ≤ at8 s i ∧ _) (by omega)]
 by_cases c6 : at8 s i < 248
 ·rw [decide_eq_true (show ((at8 s i : Int) < 248) by omega), cond_true]
  have h0 : IntKind.wrap .i64 ((at8 s i : Int) - 240) = ((at8 s i - 240 : Nat) : Int) := by rw [w64 _ (by omega)]; omega
  rw [h0, show (1 : Int) = ((1 : Nat) : Int) from rfl, Qfz _ _ _ _ _ _ (by omega) (by omega) (by omega)]
  by_cases g1 : goes s (i + 1)
  ·have hg1 := g1.2
   rw [if_pos g1, Qfz _ _ _ _ _ _ (by omega) (by omega) (by omega)]
   by_cases g2 : goes s (i + 2)
   ·have hg2 := g2.2
    rw [if_pos g2, Qfz _ _ _ _ _ _ (by omega) (by omega) (by omega)]
    by_cases g3 : goes s (i + 3)
    ·have hg3 := g3.2
     rw [if_pos g3, show 1 + 1 + 1 + 1 = 4 from rfl, Qht]
     by_cases c4 : 65536 ≤ 64 * (64 * (64 * (at8 s i - 240) + (at8 s (i + 1) - 128)) + (at8 s (i + 2) - 128)) + (at8 s (i + 3) - 128) ∧ Q1h (64 * (64 * (64 * (at8 s i - 240) + (at8 s (i + 1) - 128)) + (at8 s (i + 2) - 128)) + (at8 s (i + 3) - 128))
     ·rw [if_pos c4, if_pos ⟨by omega, c6, g1, g2, g3, c4⟩, Q70 (by omega)]; rfl
     ·rw [if_neg c4, if_neg (fun h => c4 h.2.2.2.2.2), Jh]
    ·rw [if_neg g3, if_neg (fun h => g3 h.2.2.2.2.1), Jh]
   ·rw [if_neg g2, if_neg (fun h => g2 h.2.2.2.1), Jh]
  ·rw [if_neg g1, if_neg (fun h => g1 h.2.2.1), Jh]
 ·rw [decide_eq_false (show ¬ ((at8 s i : Int) < 248) by omega), cond_false, if_neg (fun h => c6 h.2.1), Jh]
theorem Qbw (s : List UInt8) (i : Nat) (hi : i < s.length) (hs : s.length ≤ 4611686018427387904) : Tot (fun N => Zk N s (i : Int)) (ptR s i) :=
 ⟨5, fun N hN => by obtain ⟨M, rfl⟩ : ∃ M, N = M + 5 := ⟨N - 5, by omega⟩; exact Qec s i hi hs M⟩
theorem Qdy (s : List UInt8) (hs : s.length ≤ 4611686018427387904) : Tot (fun N => X6 N s) (Qh9 (Q87 s 0)) := by
 refine TotP.tot ?_
 refine Qe4 (L := fun N n (p : Int) => Z5 N s n p) (fun p => ∃ i : Nat, p = (i : Int) ∧ i ≤ s.length ∧ Q87 s i = Q87 s 0) (fun p => s.length - p.toNat) ?_ 0 ⟨0, rfl, Nat.zero_le _, rfl⟩
 rintro p ⟨i, rfl, hi, hb0⟩
 show Stp _ _ _ (fun N n => cond (Qc .lss (i : Int) (s.length : Int)) _ _)
 rw [Yg]
 refine Stp.cond (fun h => ?_) (fun h => ?_)
 ·have hl : i < s.length := by have := of_decide_eq_true h; omega
  have hw := Q9y s i hl
  have hb : Q87 s i = (if (Jg s i).1 = 0 ∨ Qbs s i then some i else Q87 s (i + (Jg s i).2)) := by rw [Q87, dif_pos hl]
  refine Stp.bind (V := (· = ptR s i)) ⟨_, rfl, Qbw s i hl hs⟩ ?_
  rintro v rfl
  unfold ptR
  by_cases hn : Qbs s i
  ·rw [if_pos (.inr hn)] at hb
   unfold Qbs at hn
   rw [hn, Jh]
   refine Stp.ret ?_
   rw [← hb0, hb]; rfl
  have hp : ptF (Jg s i) = (((Jg s i).1 : Int), ((Jg s i).2 : Int)) := Q70 (c := (Jg s i).1) (w := (Jg s i).2) (fun h => hn (by unfold Qbs; rw [← h.1, ← h.2]))
  rw [hp, Wd, Wd]
  refine Stp.cond (fun h2 => by have := of_decide_eq_true h2; have := hw.1; omega) (fun _ => ?_)
  refine Stp.cond (fun h0 => ?_) (fun h0 => ?_)
  ·have h0 : (Jg s i).1 = 0 := by have := of_decide_eq_true h0; omega
   refine Stp.ret ?_
   rw [← hb0, hb, if_pos (.inl h0)]; rfl
  ·have h0 : (Jg s i).1 ≠ 0 := by have := of_decide_eq_false h0; omega
   have e : IntKind.wrap .i64 ((i : Int) + ((Jg s i).2 : Int)) = ((i + (Jg s i).2 : Nat) : Int) := by rw [w64 _ (by have := hw.2.1; omega)]; omega
   show Stp _ _ _ (fun N n => Z5 N s n (IntKind.wrap .i64 ((i : Int) + ((Jg s i).2 : Int))))
   rw [e]
   refine Stp.go _ ⟨⟨_, rfl, hw.2.1, ?_⟩, by have := hw.1; have := hw.2.1; simp only [Int.toNat_natCast]; omega⟩
   rw [← hb0, hb, if_neg]
   rintro (h | h)
   ·exact h0 h
   ·exact hn h
 ·have hl : ¬ i < s.length := by have := of_decide_eq_false h; omega
  refine Stp.ret ?_
  rw [← hb0, Q87, dif_neg hl]; rfl
theorem Qgv (o : Option Nat) : decide (Qh9 o < 0) = o.isNone := by
 cases o with
 | none => rfl
 | some p => exact decide_eq_false (by simp only [Qh9]; omega)
theorem Qba (s : List UInt8) : Tot (fun N => Yk N s) (Q2a s) := by
 refine TotP.tot ?_
 show TotP (fun N => cond (Qc .leq (s.length : Int) 65535) _ _) _
 rw [J2]
 refine TotP.cond (fun h => ?_) (fun h => ?_)
 ·have h : s.length ≤ 65535 := by have := of_decide_eq_true h; omega
  refine TotP.bindE (Qdy s (by omega)) (.ret ?_)
  rw [Yg, Qgv]; simp [Q2a, h]
 ·have h : ¬ s.length ≤ 65535 := by have := of_decide_eq_false h; omega
  exact .ret (by simp [Q2a, h])
theorem Qcg (s : List UInt8) (hs : s.length ≤ maxLen) (c : Nat) : Tot (fun N => Yc N s (c : Int)) (s.any fun b => b.toNat == c) := by
 have hm := Q76
 refine TotP.tot ?_
 refine Qf3 (L := fun N n i => Zh N s (c : Int) n i) s.length (fun i => ∀ j (h : j < s.length), j < i → (s[j]).toNat ≠ c) (fun i hi hj => ?_) (fun hj => ?_) (fun j _ hj => by omega)
 ·show Stp _ _ _ (fun N n => cond (Qc .lss (i : Int) (s.length : Int)) _ _)
  refine Stp.cond (fun _ => ?_) (fun h => by rw [Yg] at h; have := of_decide_eq_false h; omega)
  refine Stp.idx (Q1l hi) ?_
  rw [Wd]
  refine Stp.cond (fun h => ?_) (fun h => ?_)
  ·refine Stp.ret (Eq.symm ?_)
   rw [List.any_eq_true]
   exact ⟨s[i], List.getElem_mem _, by have := of_decide_eq_true h; simp; omega⟩
  ·rw [w64 _ (by omega)]
   refine Stp.go _ ⟨by omega, fun j hj2 hji => ?_⟩
   by_cases e : j = i
   ·subst e; have := of_decide_eq_false h; omega
   ·exact hj j hj2 (by omega)
 ·show Stp _ _ _ (fun N n => cond (Qc .lss (s.length : Int) (s.length : Int)) _ _)
  refine Stp.cond (fun h => by rw [Yg] at h; have := of_decide_eq_true h; omega) (fun _ => ?_)
  refine Stp.ret (Eq.symm ?_)
  rw [List.any_eq_false]
  intro b hb
  obtain ⟨j, hj2, rfl⟩ := List.getElem_of_mem hb
  have := hj j hj2 hj2
  simpa using this
theorem Qgx (s : List UInt8) : Qen s = ((s.any fun b => b.toNat == 43) || (s.any fun b => b.toNat == 35)) := by
 unfold Qen
 induction s with
 | nil => rfl
 | cons b s ih => simp only [List.any_cons, ih]; cases b.toNat == 43 <;> cases b.toNat == 35 <;> cases (s.any fun b => b.toNat == 43) <;> cases (s.any fun b => b.toNat == 35) <;> rfl
theorem Qd2 (s : List UInt8) (hs : s.length ≤ maxLen) : Tot (fun N => Yv N s) (Q47 s) := by
 refine TotP.tot ?_
 show TotP (fun N => cond (Q1u .neq s []) _ _) _
 have e : Q1u .neq s [] = decide (s ≠ []) := by cases s <;> rfl
 rw [e]
 unfold Q47
 rw [Qgx]
 refine TotP.cond (fun h => ?_) (fun h => .ret (by rw [h]; rfl))
 rw [h]
 refine TotP.bindE (Qba s) ?_
 refine TotP.cond (fun h => ?_) (fun h => .ret (by rw [h]; rfl))
 rw [h]
 refine TotP.bindE (Qcg s hs 43) ?_
 refine TotP.cond (fun h => ?_) (fun h => .ret ?_)
 ·refine TotP.bindE (Qcg s hs 35) (.ret ?_)
  have h : (s.any fun b => b.toNat == 43) = false := by simpa using h
  rw [h]; rfl
 ·have h : (s.any fun b => b.toNat == 43) = true := by simpa using h
  rw [h]; rfl
end
end Go.Av
namespace Go.Av
noncomputable section
theorem Qjb {α : Type} (b : Bool) (x y : α) : cond b x y = if b = true then x else y := by cases b <;> rfl
theorem Qw1 (x y : Int) : (Qc .lss x y = true) = (x < y) := by simp [Qc]
theorem Qim (N : Nat) (n m : Int) (h1 : 1 ≤ m) (h2 : m ≤ 4611686018427387904) : Y5 N n m = some (n % m) := by
 unfold Y5
 simp only [Qjb, Qw1, Bool.not_eq_true', beq_eq_false_iff_ne]
 rw [if_neg (by omega), if_pos (by omega)]
 have hm := Int.tmod_eq_emod (a := n) (b := m)
 have h3 := Int.emod_nonneg n (show m ≠ 0 by omega)
 have h4 := Int.emod_lt_of_pos n (show 0 < m by omega)
 split
 ·rename_i h
  have e : n.tmod m + m = n % m := by
   rw [hm] at h ⊢
   split at h <;> rename_i hc
   ·omega
   ·rw [if_neg hc]
    have : (m.natAbs : Int) = m := by omega
    omega
  rw [e, w64 _ (by omega)]
 ·rename_i h
  have e : n.tmod m = n % m := by
   rw [hm] at h ⊢
   split at h <;> rename_i hc
   ·rw [if_pos hc]; omega
   ·have : (m.natAbs : Int) = m := by omega
    rw [if_neg hc]
    omega
  rw [e]

def noP : Wg := ⟨0, false, false, 0, 0, [], [], false, 0, [], false, [], false, [], false, (⟨[], [], 0, false, []⟩ : Q33), false, 0, [], [], []⟩
def noM : Qg5 := ⟨0, (⟨false, 0, false, false, false, 0⟩ : Q4m), 0, 0, 0, false, 0, 0, 0, [], []⟩
def noF : Ut := ⟨0, 0, [], []⟩
def Q3l (p : Int) (t pl : List UInt8) (q id : Int) : Wq := ⟨p, 1, t, pl, q, false, false, id, [], 0, [], 0, noP, noM, noF⟩
section
variable (p : Int) (t pl : List UInt8) (q id : Int)
theorem Qax : (Q3l p t pl q id).Proto = p := rfl
theorem Qaw : (Q3l p t pl q id).Topic = t := rfl
theorem Qem : (Q3l p t pl q id).QoS = q := rfl
theorem Qgz : (Q3l p t pl q id).ID = id := rfl
theorem Qel : (Q3l p t pl q id).Dup = false := rfl
theorem Qb8 : (Q3l p t pl q id).Props = [] := rfl
theorem Qcv : (Q3l p t pl q id).Type' = 0 := rfl
theorem Qcq : (Q3l p t pl q id).Hops = [] := rfl
theorem Qbz : (Q3l p t pl q id).Channel = 0 := rfl
theorem Qdt : Tot (fun N => Qb N (Q3l p t pl q id)) true := ⟨1, fun N hN => by
 obtain ⟨M, rfl⟩ : ∃ M, N = M + 1 := ⟨N - 1, by omega⟩
 rfl⟩
theorem Qdu : Tot (fun N => Qa N 3 []) 0 := ⟨1, fun N hN => by
 obtain ⟨M, rfl⟩ : ∃ M, N = M + 1 := ⟨N - 1, by omega⟩
 rfl⟩
theorem Q7e (N : Nat) (x a b : Int) : Qi N x a b = some (decide (a ≤ x) && decide (x ≤ b)) := by
 unfold Qi
 rw [Uj, J2]
 by_cases h : a ≤ x
 ·rw [decide_eq_true (p := x ≥ a) h]; rfl
 ·rw [decide_eq_false (p := x ≥ a) h]; rfl
end
theorem Qfr (s : List UInt8) (hs : s.length = 2) : TotP (fun N => Jd N s) (fun _ => True) := by
 match s, hs with
 | [a, b], _ => exact ⟨_, trivial, 3, fun N hN => by
   obtain ⟨M, rfl⟩ : ∃ M, N = M + 3 := ⟨N - 3, by omega⟩
   rfl⟩
theorem Qcs (s : List UInt8) (hs : s.length ≤ maxLen) : TotP (fun N => Wh N s) (fun _ => True) := by
 show TotP (fun N => cond (Qc .neq (s.length : Int) 2) _ _) _
 rw [Q2z]
 refine TotP.cond (fun _ => .ret trivial) (fun h => ?_)
 have h : s.length = 2 := by have := of_decide_eq_false h; omega
 refine TotP.bindE (Q9h s hs) ?_
 refine TotP.cond (fun _ => .ret trivial) (fun _ => ?_)
 exact TotP.bind (Qfr s h) (fun _ _ => .ret trivial)
theorem Qd5 (p : Int) (t pl : List UInt8) (q id : Int) (ht : t.length ≤ maxLen) : Tot (fun N => Z0 N (Q3l p t pl q id)) true := by
 refine TotP.tot ?_
 show TotP (fun N => (Qi N (Q3l p t pl q id).Type' 0 2).bind _) _
 refine TotP.bindE (.of fun N => Q7e N _ _ _) ?_
 show TotP (fun N => (Wh N (Q3l p t pl q id).Topic).bind _) _
 refine TotP.bind (Qcs t ht) (fun v _ => ?_)
 refine ⟨true, rfl, 1, fun N hN => ?_⟩
 obtain ⟨M, rfl⟩ : ∃ M, N = M + 1 := ⟨N - 1, by omega⟩
 rfl
def Qav (p : Int) (t : List UInt8) (q id : Int) : Int :=
 if Q47 t = false then 10 else
 if q < (if p = 3 then -1 else 0) ∨ 2 < q ∨ id < 0 ∨ 65535 < id ∨ ¬ (id = 0 ↔ q < 1) then 2 else 0
theorem Qaj {N : Nat} {p : Int} {t pl : List UInt8} {q id : Int} (hp : p = 1 ∨ p = 2 ∨ p = 3 ∨ p = 4) (hn : X2 N t = some (Q47 t))
  (ht : Z0 N (Q3l p t pl q id) = some true) (hb : Qb N (Q3l p t pl q id) = some true) (hv : Qa N 3 [] = some 0) :
  Zq N (Q3l p t pl q id) = some (Qav p t q id) := by
 have hk : Vf N p = some true := by rcases hp with rfl | rfl | rfl | rfl <;> rfl
 have key : ∀ c : Bool, c = decide (q = 1 ∨ q = 2) → Y7 N (Q3l p t pl q id) c = some (Qav p t q id) := by
  intro c hc
  have z1 : Qc .neq (Q3l p t pl q id).Kind 1 = false := rfl
  have z2 : Qc .gtr ((Qe Z9.cells ([] : List Z9)).length : Int) 0 = false := rfl
  have z3 : Qc .gtr ((Qe W1.cells ([] : List W1)).length : Int) 0 = false := rfl
  have z4 : Qc .neq 0 0 = false := rfl
  have z5 : (decide ((0 : Int) ≤ 0) && decide ((0 : Int) ≤ 65535)) = true := rfl
  simp only [Y7, Qax, z1, Qaw, Qem, Qgz, Qel, Qb8, Qcv, Qcq, Qbz, hk, hn, ht, hb, hv, Q7e, Option.bind_some, Bool.not_true, Bool.not_false, cond_false, cond_true, z2, z3, z4, z5, Wd, Q2z]
  unfold Qav
  cases hN : Q47 t
  ·rfl
  ·simp only [Bool.not_true, cond_false, if_false, Bool.true_eq_false]
   subst hc
   have cF : ∀ {P : Prop} [Decidable P] {R : Type} (x y : R), ¬ P → cond (decide P) x y = y := fun x y h => by rw [decide_eq_false h]; rfl
   have cT : ∀ {P : Prop} [Decidable P] {R : Type} (x y : R), P → cond (decide P) x y = x := fun x y h => by rw [decide_eq_true h]; rfl
   have b1 : (decide (0 ≤ q) && decide (q ≤ 2)) = decide (0 ≤ q ∧ q ≤ 2) := by simp
   have b2 : (decide (0 ≤ id) && decide (id ≤ 65535)) = decide (0 ≤ id ∧ id ≤ 65535) := by simp
   have b3 : (!(decide (q = 1 ∨ q = 2) == decide (id ≠ 0))) = decide (¬ ((q = 1 ∨ q = 2) ↔ id ≠ 0)) := by
    by_cases x : (q = 1 ∨ q = 2) <;> by_cases y : id = 0 <;> simp [x, y]
   have nF : ∀ {P : Prop} [Decidable P], (!decide P) = decide (¬ P) := by simp
   rw [b1, b2, b3, nF, nF, nF]
   by_cases hq : 0 ≤ q ∧ q ≤ 2
   ·rw [cF _ _ (by omega : ¬ ¬ (0 ≤ q ∧ q ≤ 2))]
    have em : ∀ {X : Prop}, (q < (if p = 3 then -1 else 0) ∨ X) = X := by
     intro X; split <;> exact propext ⟨fun h => h.resolve_left (by omega), .inr⟩
    simp only [em]
    by_cases hi : 0 ≤ id ∧ id ≤ 65535
    ·rw [cF _ _ (by omega : ¬ ¬ (0 ≤ id ∧ id ≤ 65535))]
     by_cases hc : (q = 1 ∨ q = 2) ↔ id ≠ 0
     ·rw [cF _ _ (by omega : ¬ ¬ ((q = 1 ∨ q = 2) ↔ id ≠ 0)), if_neg (by omega)]
      cases decide (p = 3) <;> rfl
     ·rw [cT _ _ hc, if_pos (by omega)]
    ·rw [cT _ _ hi, if_pos (by omega)]
   ·rw [cT _ _ hq]
    by_cases h3 : p = 3
    ·rw [cT _ _ h3, if_pos h3]
     by_cases h1 : q = -1
     ·rw [cF _ _ (by omega : ¬ ¬ q = -1)]
      by_cases hi : 0 ≤ id ∧ id ≤ 65535
      ·rw [cF _ _ (by omega : ¬ ¬ (0 ≤ id ∧ id ≤ 65535))]
       by_cases hc : (q = 1 ∨ q = 2) ↔ id ≠ 0
       ·rw [cF _ _ (by omega : ¬ ¬ ((q = 1 ∨ q = 2) ↔ id ≠ 0)), if_neg (by omega)]
        rfl
       ·rw [cT _ _ hc, if_pos (by omega)]
      ·rw [cT _ _ hi, if_pos (by omega)]
     ·rw [cT _ _ h1, if_pos (by omega)]
    ·rw [cF _ _ h3, if_neg h3, if_pos (by omega)]
 unfold Zq
 rw [Wd, Wd]
 by_cases h1 : q = 1
 ·rw [show (Q3l p t pl q id).QoS = q from rfl, decide_eq_true h1]; exact key _ (by simp [h1])
 ·rw [show (Q3l p t pl q id).QoS = q from rfl, decide_eq_false h1]; exact key _ (by simp [h1])
theorem Q37 {p : Int} {t : List UInt8} (pl : List UInt8) (q id : Int) (hp : p = 1 ∨ p = 2 ∨ p = 3 ∨ p = 4) (hs : t.length ≤ maxLen) : Tot (fun N => Zq N (Q3l p t pl q id)) (Qav p t q id) := by
 obtain ⟨a, ha⟩ := Q9h t hs
 obtain ⟨b, hb⟩ := Qd5 p t pl q id hs
 obtain ⟨c, hc⟩ := Qdt p t pl q id
 obtain ⟨d, hd⟩ := Qdu
 exact ⟨a + b + c + d, fun N hN => Qaj hp (ha N (by omega)) (hb N (by omega)) (hc N (by omega)) (hd N (by omega))⟩
theorem Qdf {t pl : List UInt8} {q id v9 v14 w : Int} (h9 : 0 ≤ v9 ∧ v9 < 4) (h14 : 0 ≤ v14 ∧ v14 < 3000) (hs : t.length ≤ maxLen) (hw : w = if Qav (1 + v9) t q id = 0 ∧ (16 + v14 < pl.length) then 4 else Qav (1 + v9) t q id) :
  Tot (fun N => Qk N t pl q id v9 v14 w) true := by
 refine TotP.tot ?_
 show TotP (fun N => (We N (⟨IntKind.wrap .i64 (16 + v14), 2⟩ : Xi)).bind _) _
 rw [w64 (16 + v14) (by omega)]
 have hr : ∀ N, We N (⟨16 + v14, 2⟩ : Xi) = some true := fun N => by
  show cond (Qc .geq (16 + v14) 16) (cond (Qc .leq (16 + v14) 1048576) _ _) _ = _
  rw [Uj, J2, decide_eq_true (by omega), decide_eq_true (by omega)]; rfl
 refine TotP.bindE (.of hr) ?_
 show TotP (fun N => (Zq N (Q3l (IntKind.wrap .i64 (1 + v9)) t pl q id)).bind _) _
 rw [w64 (1 + v9) (by omega)]
 refine TotP.bindE (Q37 pl q id (by omega) hs) ?_
 rw [Q2z, Wd, G9]
 refine TotP.cond (fun h => ?_) (fun h => ?_)
 ·have h := of_decide_eq_true h
  exact .ret (by rw [hw, if_neg (fun x => h x.1)]; simp)
 ·have h : Qav (1 + v9) t q id = 0 := by have := of_decide_eq_false h; omega
  refine TotP.cond (fun g => ?_) (fun g => ?_)
  ·have g := of_decide_eq_true g
   exact .ret (by rw [hw, if_pos ⟨h, by omega⟩]; rfl)
  ·have g := of_decide_eq_false g
   exact .ret (by rw [hw, if_neg (fun x => g x.2), h]; rfl)
theorem Qio {t pl : List UInt8} {q id v9 v14 w : Int} (h9 : 0 ≤ v9 ∧ v9 < 4) (h14 : 0 ≤ v14 ∧ v14 < 3000) (hs : t.length ≤ maxLen) (hw : w = Qav (1 + v9) t q id) :
  Tot (fun N => Q8 N t pl q id v9 v14 w) true := by
 refine TotP.tot ?_
 show TotP (fun N => (Zq N (Q3l (IntKind.wrap .i64 (1 + v9)) t pl q id)).bind _) _
 rw [w64 (1 + v9) (by omega), w64 (16 + v14) (by omega)]
 refine TotP.bindE (Q37 pl q id (by omega) hs) ?_
 rw [Q2z, Wd, G9]
 refine TotP.cond (fun h => absurd hw.symm (of_decide_eq_true h)) (fun _ => ?_)
 refine TotP.cond (fun h => ?_) (fun h => ?_)
 ·have h := of_decide_eq_true h
  show TotP (fun N => cond (decide _) (Qk N t pl q id v9 v14 4) (Qk N t pl q id v9 v14 w)) _
  refine TotP.cond (fun g => ?_) (fun g => ?_)
  ·exact .of rfl (Qdf h9 h14 hs (by rw [if_pos ⟨by omega, by have := of_decide_eq_true g; omega⟩]))
  ·exact .of rfl (Qdf h9 h14 hs (by rw [if_neg (fun x => of_decide_eq_false g x.2)]; exact hw))
 ·have h := of_decide_eq_false h
  exact .of rfl (Qdf h9 h14 hs (by rw [if_neg (fun x => h (by omega))]; exact hw))
theorem Qfq {t pl : List UInt8} {q id v9 least : Int} (most : Int) (h9 : 0 ≤ v9 ∧ v9 < 4) (hs : t.length ≤ maxLen) (hl : least = if 1 + v9 = 3 then -1 else 0) :
  Tot (fun N => Qy N t pl q id most v9 least) true := by
 have h14 : 0 ≤ most % 3000 ∧ most % 3000 < 3000 := by omega
 refine TotP.tot ?_
 refine TotP.bindE (.of fun N => Qim N most 3000 (by omega) (by omega)) ?_
 refine TotP.bindE (Qd2 t hs) ?_
 have hp : Qav (1 + v9) t q id = if Q47 t = false then 10 else if q < least ∨ 2 < q ∨ id < 0 ∨ 65535 < id ∨ ¬ (id = 0 ↔ q < 1) then 2 else 0 := by
  unfold Qav; rw [← hl]
 have go : ∀ w, w = Qav (1 + v9) t q id → TotP (fun N => Q8 N t pl q id v9 (most % 3000) w) (· = true) := fun w hw => .of rfl (Qio h9 h14 hs hw)
 have J3 : ∀ b : Bool, (if b = true then (2 : Int) else 0) = Qav (1 + v9) t q id → TotP (fun N => Ql N (Q8 N t pl q id v9 (most % 3000)) b) (· = true) := by
  intro b hb
  cases b
  ·exact go 0 hb
  ·exact go 2 hb
 cases hn : Q47 t
 ·exact go 10 (by rw [hp, if_pos hn])
 ·have hp : Qav (1 + v9) t q id = if q < least ∨ 2 < q ∨ id < 0 ∨ 65535 < id ∨ ¬ (id = 0 ↔ q < 1) then 2 else 0 := by rw [hp, if_neg (by simp [hn])]
  show TotP (fun N => cond _ _ _) _
  rw [Yg, G9, Yg, G9, Wd, Yg]
  refine TotP.cond (fun h => nomatch h) (fun _ => ?_)
  refine TotP.cond (fun h => J3 _ ?_) (fun h1 => ?_)
  ·have := of_decide_eq_true h; rw [hp, if_pos rfl, if_pos (by omega)]
  refine TotP.cond (fun h => J3 _ ?_) (fun h2 => ?_)
  ·have := of_decide_eq_true h; rw [hp, if_pos rfl, if_pos (by omega)]
  refine TotP.cond (fun h => J3 _ ?_) (fun h3 => ?_)
  ·have := of_decide_eq_true h; rw [hp, if_pos rfl, if_pos (by omega)]
  refine TotP.cond (fun h => J3 _ ?_) (fun h4 => J3 _ ?_)
  ·have := of_decide_eq_true h; rw [hp, if_pos rfl, if_pos (by omega)]
  have h1 := of_decide_eq_false h1; have h2 := of_decide_eq_false h2; have h3 := of_decide_eq_false h3; have h4 := of_decide_eq_false h4
  rw [hp]
  by_cases a : id = 0 <;> by_cases b : q < 1
  ·rw [decide_eq_true a, decide_eq_true b, if_neg (by decide), if_neg (by omega)]
  ·rw [decide_eq_true a, decide_eq_false b, if_pos (by decide), if_pos (by omega)]
  ·rw [decide_eq_false a, decide_eq_true b, if_pos (by decide), if_pos (by omega)]
  ·rw [decide_eq_false a, decide_eq_false b, if_neg (by decide), if_neg (by omega)]
theorem Q8y (proto : Int) (t pl : List UInt8) (q id most : Int) (hs : t.length ≤ maxLen) : ∃ N, Zf N proto t pl q id most = some true := by
 have J0 : ∀ b, TotP (fun N => Qz N proto t pl q id most b) (· = true) := by
  intro b
  refine TotP.cond (fun _ => .ret rfl) (fun _ => ?_)
  refine TotP.bindE (.of fun N => Qim N proto 4 (by omega) (by omega)) ?_
  rw [w64 _ (by omega), Wd]
  refine TotP.cond (fun h => ?_) (fun h => ?_)
  ·exact .of rfl (Qfq most (by omega) hs (by rw [if_pos (of_decide_eq_true h)]))
  ·exact .of rfl (Qfq most (by omega) hs (by rw [if_neg (of_decide_eq_false h)]))
 have h : TotP (fun N => Zf N proto t pl q id most) (· = true) := by
  refine TotP.cond (fun _ => J0 _) (fun _ => J0 _)
 obtain ⟨N, hN⟩ := h.tot
 exact ⟨N, hN N (Nat.le_refl _)⟩
end
end Go.Av
