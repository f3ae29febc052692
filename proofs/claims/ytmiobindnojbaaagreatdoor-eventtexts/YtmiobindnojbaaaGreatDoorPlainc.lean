/- The law. Part of a proof of a given statement: for every input the law returns true and the arguments read as before; no condition beyond the given row. -/
import Derived.Test.YtmiobindnojbaaaGreatDoorAvOwn
import Derived.Test.YtmiobindnojbaaaGreatDoorLift2
import Derived.Test.YtmiobindnojbaaaGreatDoorLiftF3
import Derived.Test.YtmiobindnojbaaaGreatDoorOkX
namespace Go.Av
noncomputable section
section
variable {R A S T : Type}
def Tot (f : Nat → Option R) (r : R) : Prop := ∃ N0, ∀ N, N0 ≤ N → f N = some r
def TotP (f : Nat → Option R) (Q : R → Prop) : Prop := ∃ r, Q r ∧ Tot f r
theorem Tot.of {f : Nat → Option R} {r : R} (h : ∀ N, f N = some r) : Tot f r := ⟨0, fun N _ => h N⟩
theorem Tot.ret (r : R) : Tot (fun _ => some r) r := .of fun _ => rfl
theorem Tot.bind {f : Nat → Option A} {g : Nat → A → Option R} {v : A} {r : R} (h1 : Tot f v) (h2 : Tot (fun N => g N v) r) : Tot (fun N => (f N).bind (g N)) r := by
 obtain ⟨a, ha⟩ := h1
 obtain ⟨b, hb⟩ := h2
 exact ⟨max a b, fun N hN => by show (f N).bind (g N) = _; rw [ha N (by omega)]; exact hb N (by omega)⟩
theorem TotP.of {f : Nat → Option R} {r : R} {Q : R → Prop} (hq : Q r) (h : Tot f r) : TotP f Q := ⟨r, hq, h⟩
theorem TotP.ret {r : R} {Q : R → Prop} (h : Q r) : TotP (fun _ => some r) Q := ⟨r, h, .ret r⟩
theorem TotP.mono {f : Nat → Option R} {Q Q' : R → Prop} (h : TotP f Q) (hq : ∀ r, Q r → Q' r) : TotP f Q' := by
 obtain ⟨r, h1, h2⟩ := h; exact ⟨r, hq r h1, h2⟩
theorem TotP.tot {f : Nat → Option R} {r : R} (h : TotP f (· = r)) : Tot f r := by obtain ⟨x, rfl, h2⟩ := h; exact h2
theorem TotP.bind {f : Nat → Option A} {g : Nat → A → Option R} {V : A → Prop} {Q : R → Prop} (h1 : TotP f V) (h2 : ∀ v, V v → TotP (fun N => g N v) Q) : TotP (fun N => (f N).bind (g N)) Q := by
 obtain ⟨v, hv, t⟩ := h1
 obtain ⟨r, hr, u⟩ := h2 v hv
 exact ⟨r, hr, t.bind u⟩
theorem TotP.bindE {f : Nat → Option A} {g : Nat → A → Option R} {v : A} {Q : R → Prop} (h1 : Tot f v) (h2 : TotP (fun N => g N v) Q) : TotP (fun N => (f N).bind (g N)) Q := by
 obtain ⟨r, hr, u⟩ := h2
 exact ⟨r, hr, h1.bind u⟩
theorem TotP.cond {b : Bool} {f g : Nat → Option R} {Q : R → Prop} (h1 : b = true → TotP f Q) (h2 : b = false → TotP g Q) : TotP (fun N => cond b (f N) (g N)) Q := by
 cases b
 ·exact h2 rfl
 ·exact h1 rfl
theorem TotP.chk {b : Bool} {f : Nat → Option R} {Q : R → Prop} (hb : b = true) (h : TotP f Q) : TotP (fun N => _root_.cond b (f N) none) Q := by subst hb; exact h
theorem TotP.idx {l : List T} {i : Int} {y : T} {g : Nat → T → Option R} {Q : R → Prop} (h : idx l i = some y) (h2 : TotP (fun N => g N y) Q) : TotP (fun N => (Go.Av.idx l i).bind (g N)) Q :=
 .bindE (.of fun _ => h) h2
theorem TotP.optC {o : Option T} {f : Nat → T → Option R} {z : Nat → Option R} {Q : R → Prop} (h1 : ∀ v, o = some v → TotP (fun N => f N v) Q) (h2 : o = none → TotP z Q) : TotP (fun N => Go.Av.optC o (f N) (z N)) Q := by
 cases o with
 | none => exact h2 rfl
 | some v => exact h1 v rfl
def Stp (L : Nat → Nat → S → Option R) (P : S → Prop) (Q : R → Prop) (f : Nat → Nat → Option R) : Prop :=
 (∃ r N0, Q r ∧ ∀ N n, N0 ≤ N → f N n = some r) ∨ ∃ s N0, P s ∧ ∀ N n, N0 ≤ N → f N n = L N n s
section
variable {L : Nat → Nat → S → Option R} {P : S → Prop} {Q : R → Prop}
theorem Stp.fin {f : Nat → Option R} (h : TotP f Q) : Stp L P Q (fun N _ => f N) := by
 obtain ⟨r, h1, N0, h2⟩ := h; exact .inl ⟨r, N0, h1, fun N _ hN => h2 N hN⟩
theorem Stp.ret {r : R} (h : Q r) : Stp L P Q (fun _ _ => some r) := .inl ⟨r, 0, h, fun _ _ _ => rfl⟩
theorem Stp.go (s : S) (h : P s) : Stp L P Q (fun N n => L N n s) := .inr ⟨s, 0, h, fun _ _ _ => rfl⟩
theorem Stp.bind {f : Nat → Option A} {g : Nat → Nat → A → Option R} {V : A → Prop} (h1 : TotP f V) (h2 : ∀ v, V v → Stp L P Q (fun N n => g N n v)) : Stp L P Q (fun N n => (f N).bind (g N n)) := by
 obtain ⟨v, hv, a, ha⟩ := h1
 rcases h2 v hv with ⟨r, b, hr, hb⟩ | ⟨s, b, hs, hb⟩
 ·exact .inl ⟨r, max a b, hr, fun N n hN => by show (f N).bind _ = _; rw [ha N (by omega)]; exact hb N n (by omega)⟩
 ·exact .inr ⟨s, max a b, hs, fun N n hN => by show (f N).bind _ = _; rw [ha N (by omega)]; exact hb N n (by omega)⟩
theorem Stp.idx {l : List T} {i : Int} {y : T} {g : Nat → Nat → T → Option R} (h : idx l i = some y) (h2 : Stp L P Q (fun N n => g N n y)) : Stp L P Q (fun N n => (Go.Av.idx l i).bind (g N n)) :=
 .bind (f := fun _ => Go.Av.idx l i) (V := (· = y)) ⟨y, rfl, .of fun _ => h⟩ (fun v hv => by subst hv; exact h2)
theorem Stp.cond {b : Bool} {f g : Nat → Nat → Option R} (h1 : b = true → Stp L P Q f) (h2 : b = false → Stp L P Q g) : Stp L P Q (fun N n => cond b (f N n) (g N n)) := by
 cases b
 ·exact h2 rfl
 ·exact h1 rfl
theorem Stp.chk {b : Bool} {f : Nat → Nat → Option R} (hb : b = true) (h : Stp L P Q f) : Stp L P Q (fun N n => _root_.cond b (f N n) none) := by subst hb; exact h
theorem Q6s (inv : S → Prop) (μ : S → Nat) (Qm : ∀ s, inv s → Stp L (fun s' => inv s' ∧ μ s' < μ s) Q (fun N n => L N (n + 1) s)) (s : S) (h : inv s) : TotP (fun N => L N N s) Q := by
 have key : ∀ (m : Nat) (s : S), μ s < m → inv s → ∃ r N0, Q r ∧ ∀ N n, N0 ≤ N → N0 ≤ n → L N n s = some r := by
  intro m
  induction m with
  | zero => intro s h; omega
  | succ m ih =>
   intro s hm hi
   rcases Qm s hi with ⟨r, N0, hr, hL⟩ | ⟨s', N0, ⟨h1, h2⟩, hL⟩
   ·refine ⟨r, N0 + 1, hr, fun N n h1 h2 => ?_⟩
    obtain ⟨k, rfl⟩ : ∃ k, n = k + 1 := ⟨n - 1, by omega⟩
    exact hL N k (by omega)
   ·obtain ⟨r, M0, hr, hM⟩ := ih s' (by omega) h1
    refine ⟨r, max N0 M0 + 1, hr, fun N n h1 h2 => ?_⟩
    obtain ⟨k, rfl⟩ : ∃ k, n = k + 1 := ⟨n - 1, by omega⟩
    exact (hL N k (by omega)).trans (hM N k (by omega) (by omega))
 obtain ⟨r, N0, hr, hL⟩ := key (μ s + 1) s (by omega) h
 exact ⟨r, hr, N0, fun N hN => hL N N hN hN⟩
end
theorem Q45 {L : Nat → Nat → Int → Option R} {Q : R → Prop} (m : Nat) (J : Nat → Prop) (Qm : ∀ i, i < m → J i → Stp L (fun s => s = ((i + 1 : Nat) : Int) ∧ J (i + 1)) Q (fun N n => L N (n + 1) (i : Int)))
  (fin : J m → Stp L (fun _ => False) Q (fun N n => L N (n + 1) (m : Int))) (h0 : J 0) : TotP (fun N => L N N 0) Q := by
 refine Q6s (S := Int) (fun s => ∃ i : Nat, s = (i : Int) ∧ i ≤ m ∧ J i) (fun s => m - s.toNat) ?_ 0 ⟨0, rfl, Nat.zero_le _, h0⟩
 rintro s ⟨i, rfl, hi, hj⟩
 by_cases h : i < m
 ·rcases Qm i h hj with ⟨r, N0, hr, hL⟩ | ⟨s', N0, ⟨rfl, h2⟩, hL⟩
  ·exact .inl ⟨r, N0, hr, hL⟩
  ·exact .inr ⟨_, N0, ⟨⟨i + 1, rfl, h, h2⟩, by simp only [Int.toNat_natCast]; omega⟩, hL⟩
 ·have : i = m := by omega
  subst this
  rcases fin hj with ⟨r, N0, hr, hL⟩ | ⟨s', N0, h2, hL⟩
  ·exact .inl ⟨r, N0, hr, hL⟩
  ·exact h2.elim
end
theorem Yz (x y : Int) : Qa .lss x y = decide (x < y) := rfl
theorem Gm (x y : Int) : Qa .leq x y = decide (x ≤ y) := rfl
theorem Q1a (x y : Int) : Qa .gtr x y = decide (x > y) := rfl
theorem Q02 (x y : Int) : Qa .geq x y = decide (x ≥ y) := rfl
theorem Gh (x y : Int) : Qa .eql x y = decide (x = y) := by unfold Qa; by_cases h : x = y <;> simp [h]
theorem G9 (x y : Int) : Qa .neq x y = decide (x ≠ y) := by unfold Qa; by_cases h : x = y <;> simp [h]
theorem w64 (x : Int) (h : -9223372036854775808 ≤ x ∧ x ≤ 9223372036854775807) : IntKind.wrap .i64 x = x := IntWalk.i64_in x h
theorem Xr {T : Type} {l : List T} {i : Nat} (h : i < l.length) : idx l (i : Int) = some l[i] := List.getElem?_eq_getElem h
theorem Q3z : maxLen ≤ 9223372036854775807 := by unfold maxLen; decide
end
end Go.Av
namespace Go.Av
noncomputable section
def at8 (s : List UInt8) (i : Nat) : Nat := (s.getD i 0).toNat
theorem Qao (s : List UInt8) (i : Nat) : at8 s i < 256 := UInt8.toNat_lt _
theorem Q4p {s : List UInt8} {i : Nat} (h : i < s.length) : at8 s i = (s[i]).toNat := by simp [at8, h]
def goes (s : List UInt8) (i : Nat) : Prop := i < s.length ∧ 128 ≤ at8 s i ∧ at8 s i < 192
instance (s : List UInt8) (i : Nat) : Decidable (goes s i) := inferInstanceAs (Decidable (_ ∧ _))
def Q70 (c : Nat) : Prop := ¬ (55296 ≤ c ∧ c ≤ 57343) ∧ c ≤ 1114111
instance (c : Nat) : Decidable (Q70 c) := inferInstanceAs (Decidable (_ ∧ _))
def Q3e (s : List UInt8) (i : Nat) : Nat × Nat :=
 if at8 s i < 128 then (at8 s i, 1)
 else if 192 ≤ at8 s i ∧ at8 s i < 224 ∧ goes s (i + 1) ∧ 128 ≤ 64 * (at8 s i - 192) + (at8 s (i + 1) - 128) then (64 * (at8 s i - 192) + (at8 s (i + 1) - 128), 2)
 else if 224 ≤ at8 s i ∧ at8 s i < 240 ∧ goes s (i + 1) ∧ goes s (i + 2) ∧ 2048 ≤ 64 * (64 * (at8 s i - 224) + (at8 s (i + 1) - 128)) + (at8 s (i + 2) - 128) ∧ Q70 (64 * (64 * (at8 s i - 224) + (at8 s (i + 1) - 128)) + (at8 s (i + 2) - 128)) then
  (64 * (64 * (at8 s i - 224) + (at8 s (i + 1) - 128)) + (at8 s (i + 2) - 128), 3)
 else if 240 ≤ at8 s i ∧ at8 s i < 248 ∧ goes s (i + 1) ∧ goes s (i + 2) ∧ goes s (i + 3) ∧ 65536 ≤ 64 * (64 * (64 * (at8 s i - 240) + (at8 s (i + 1) - 128)) + (at8 s (i + 2) - 128)) + (at8 s (i + 3) - 128) ∧
   Q70 (64 * (64 * (64 * (at8 s i - 240) + (at8 s (i + 1) - 128)) + (at8 s (i + 2) - 128)) + (at8 s (i + 3) - 128)) then
  (64 * (64 * (64 * (at8 s i - 240) + (at8 s (i + 1) - 128)) + (at8 s (i + 2) - 128)) + (at8 s (i + 3) - 128), 4)
 else (65533, 1)
theorem Q8o (c : Nat) : Utf8.valid (c : Int) = true ↔ Q70 c := by
 unfold Utf8.valid Q70
 simp only [Bool.and_eq_true, Bool.or_eq_true, Bool.not_eq_true', decide_eq_true_eq, decide_eq_false_iff_not]
 omega
theorem Qgg (a b c d : Nat) (G1 G2 G3 : Prop) [Decidable G1] [Decidable G2] [Decidable G3] (h0 : a < 256) (q1 : G1 → 128 ≤ b ∧ b < 192) (q2 : G2 → 128 ≤ c ∧ c < 192) (q3 : G3 → 128 ≤ d ∧ d < 192) :
  (if a < 128 then (a, 1)
   else if (a / 32 == 6 && decide G1) = true then (if a % 32 * 64 + b % 64 ≥ 128 then (a % 32 * 64 + b % 64, 2) else (65533, 1))
   else if (a / 16 == 14 && decide G1 && decide G2) = true then (if (decide (a % 16 * 4096 + b % 64 * 64 + c % 64 ≥ 2048) && Utf8.valid ((a % 16 * 4096 + b % 64 * 64 + c % 64 : Nat) : Int)) = true then (a % 16 * 4096 + b % 64 * 64 + c % 64, 3) else (65533, 1))
   else if (a / 8 == 30 && decide G1 && decide G2 && decide G3) = true then (if (decide (a % 8 * 262144 + b % 64 * 4096 + c % 64 * 64 + d % 64 ≥ 65536) && Utf8.valid ((a % 8 * 262144 + b % 64 * 4096 + c % 64 * 64 + d % 64 : Nat) : Int)) = true then (a % 8 * 262144 + b % 64 * 4096 + c % 64 * 64 + d % 64, 4) else (65533, 1))
   else (65533, 1)) =
  (if a < 128 then (a, 1)
   else if 192 ≤ a ∧ a < 224 ∧ G1 ∧ 128 ≤ 64 * (a - 192) + (b - 128) then (64 * (a - 192) + (b - 128), 2)
   else if 224 ≤ a ∧ a < 240 ∧ G1 ∧ G2 ∧ 2048 ≤ 64 * (64 * (a - 224) + (b - 128)) + (c - 128) ∧ Q70 (64 * (64 * (a - 224) + (b - 128)) + (c - 128)) then (64 * (64 * (a - 224) + (b - 128)) + (c - 128), 3)
   else if 240 ≤ a ∧ a < 248 ∧ G1 ∧ G2 ∧ G3 ∧ 65536 ≤ 64 * (64 * (64 * (a - 240) + (b - 128)) + (c - 128)) + (d - 128) ∧ Q70 (64 * (64 * (64 * (a - 240) + (b - 128)) + (c - 128)) + (d - 128)) then
    (64 * (64 * (64 * (a - 240) + (b - 128)) + (c - 128)) + (d - 128), 4)
   else (65533, 1)) := by
 simp only [Bool.and_eq_true, decide_eq_true_eq, beq_iff_eq, Q8o, ge_iff_le]
 have e2 : ∀ x, Q70 x = (¬ (55296 ≤ x ∧ x ≤ 57343) ∧ x ≤ 1114111) := fun x => rfl
 by_cases c1 : a < 128
 ·rw [if_pos c1, if_pos c1]
 rw [if_neg c1, if_neg c1]
 by_cases c2 : a < 192
 ·rw [if_neg (by omega), if_neg (by omega), if_neg (by omega), if_neg (by omega), if_neg (by omega), if_neg (by omega)]
 by_cases c3 : a < 224
 ·by_cases g1 : G1
  ·have := q1 g1
   have e : a % 32 * 64 + b % 64 = 64 * (a - 192) + (b - 128) := by omega
   rw [if_pos ⟨by omega, g1⟩, e]
   by_cases c4 : 128 ≤ 64 * (a - 192) + (b - 128)
   ·rw [if_pos c4, if_pos ⟨by omega, c3, g1, c4⟩]
   ·rw [if_neg c4, if_neg (fun h => c4 h.2.2.2), if_neg (by omega), if_neg (by omega)]
  ·rw [if_neg (fun h => g1 h.2), if_neg (by omega), if_neg (by omega), if_neg (fun h => g1 h.2.2.1), if_neg (by omega), if_neg (by omega)]
 rw [if_neg (by omega), if_neg (c := 192 ≤ a ∧ _) (by omega)]
 by_cases c5 : a < 240
 ·by_cases g : G1 ∧ G2
  ·have := q1 g.1
   have := q2 g.2
   have e : a % 16 * 4096 + b % 64 * 64 + c % 64 = 64 * (64 * (a - 224) + (b - 128)) + (c - 128) := by omega
   rw [if_pos ⟨⟨by omega, g.1⟩, g.2⟩, e]
   by_cases c4 : 2048 ≤ 64 * (64 * (a - 224) + (b - 128)) + (c - 128) ∧ Q70 (64 * (64 * (a - 224) + (b - 128)) + (c - 128))
   ·rw [if_pos c4, if_pos ⟨by omega, c5, g.1, g.2, c4⟩]
   ·rw [if_neg c4, if_neg (fun h => c4 h.2.2.2.2), if_neg (by omega)]
  ·rw [if_neg (fun h => g ⟨h.1.2, h.2⟩), if_neg (by omega), if_neg (fun h => g ⟨h.2.2.1, h.2.2.2.1⟩), if_neg (by omega)]
 rw [if_neg (by omega), if_neg (c := 224 ≤ a ∧ _) (by omega)]
 by_cases c6 : a < 248
 ·by_cases g : G1 ∧ G2 ∧ G3
  ·have := q1 g.1
   have := q2 g.2.1
   have := q3 g.2.2
   have e : a % 8 * 262144 + b % 64 * 4096 + c % 64 * 64 + d % 64 = 64 * (64 * (64 * (a - 240) + (b - 128)) + (c - 128)) + (d - 128) := by omega
   rw [if_pos ⟨⟨⟨by omega, g.1⟩, g.2.1⟩, g.2.2⟩, e]
   by_cases c4 : 65536 ≤ 64 * (64 * (64 * (a - 240) + (b - 128)) + (c - 128)) + (d - 128) ∧ Q70 (64 * (64 * (64 * (a - 240) + (b - 128)) + (c - 128)) + (d - 128))
   ·rw [if_pos c4, if_pos ⟨by omega, c6, g.1, g.2.1, g.2.2, c4⟩]
   ·rw [if_neg c4, if_neg (fun h => c4 h.2.2.2.2.2)]
  ·rw [if_neg (fun h => g ⟨h.1.1.2, h.1.2, h.2⟩), if_neg (fun h => g ⟨h.2.2.1, h.2.2.2.1, h.2.2.2.2.1⟩)]
 ·rw [if_neg (by omega), if_neg (by omega)]
theorem Qk9 (s : List UInt8) (j : Nat) : (decide (j < s.length) && (at8 s j / 64 == 2)) = decide (goes s j) := by
 have hk := Qao s j
 by_cases hg : goes s j
 ·have h4 : at8 s j / 64 = 2 := by have := hg.2; omega
  simp [hg, hg.1, h4]
 ·simp only [hg, decide_false, Bool.and_eq_false_iff, decide_eq_false_iff_not]
  by_cases hl : j < s.length
  ·right
   simp only [beq_eq_false_iff_ne, ne_eq]
   intro h4
   exact hg ⟨hl, by omega, by omega⟩
  ·exact .inl hl
theorem Qar (s : List UInt8) (i : Nat) : Q1y s i = Q3e s i := by
 have u : ∀ j, (s.getD j 0).toNat = at8 s j := fun _ => rfl
 have := Qgg (at8 s i) (at8 s (i + 1)) (at8 s (i + 2)) (at8 s (i + 3)) (goes s (i + 1)) (goes s (i + 2)) (goes s (i + 3)) (Qao _ _) (fun h => h.2) (fun h => h.2) (fun h => h.2)
 unfold Q3e
 rw [← this]
 unfold Q1y
 simp only [Nat.add_zero, u, Qk9]
 rfl
theorem Qe5 (s : List UInt8) (i : Nat) (h : i < s.length) : 1 ≤ (Q3e s i).2 ∧ i + (Q3e s i).2 ≤ s.length ∧ ((Q3e s i).1 < 128 ↔ at8 s i < 128) ∧ (at8 s i < 128 → (Q3e s i).1 = at8 s i ∧ (Q3e s i).2 = 1) ∧
  (∀ k, 1 ≤ k → k < (Q3e s i).2 → 128 ≤ at8 s (i + k)) ∧ Q70 (Q3e s i).1 := by
 have h0 := Qao s i
 unfold Q3e
 split
 ·refine ⟨by simp, by simp; omega, by simp, fun _ => ⟨rfl, rfl⟩, fun k h1 h2 => by simp at h2; omega, by unfold Q70; simp; omega⟩
 split
 ·rename_i h1 h2
  obtain ⟨_, _, g1, h3⟩ := h2
  refine ⟨by simp, by simp; have := g1.1; omega, by simp; omega, fun h => by omega, fun k h4 h5 => ?_, by unfold Q70; simp only; have := g1.2; omega⟩
  have : k = 1 := by simp at h5; omega
  subst this; exact g1.2.1
 split
 ·rename_i h1 h2 h3
  obtain ⟨_, _, g1, g2, h3, h6⟩ := h3
  refine ⟨by simp, by simp; have := g2.1; omega, by simp; omega, fun h => by omega, fun k h4 h5 => ?_, h6⟩
  have : k = 1 ∨ k = 2 := by simp at h5; omega
  rcases this with rfl | rfl
  ·exact g1.2.1
  ·exact g2.2.1
 split
 ·rename_i h1 h2 h3 h4
  obtain ⟨_, _, g1, g2, g3, h3, h6⟩ := h4
  refine ⟨by simp, by simp; have := g3.1; omega, by simp; omega, fun h => by omega, fun k h4 h5 => ?_, h6⟩
  have : k = 1 ∨ k = 2 ∨ k = 3 := by simp at h5; omega
  rcases this with rfl | rfl | rfl
  ·exact g1.2.1
  ·exact g2.2.1
  ·exact g3.2.1
 ·rename_i h1 h2 h3 h4
  exact ⟨by simp, by simp; omega, by simp; omega, fun h => by omega, fun k h4 h5 => by simp at h5; omega, by unfold Q70; simp⟩
def Qgp (s : List UInt8) (i : Nat) : Prop := Q3e s i = (65533, 1)
instance (s : List UInt8) (i : Nat) : Decidable (Qgp s i) := inferInstanceAs (Decidable (_ = _))
def Qgd (s : List UInt8) (pos : Nat) : Option Nat :=
 if h : pos < s.length then (if (Q3e s pos).1 = 0 ∨ Qgp s pos then some pos else Qgd s (pos + (Q3e s pos).2)) else none
termination_by s.length - pos
decreasing_by have := (Qe5 s pos h).1; omega
end
end Go.Av
namespace Go.Av
noncomputable section
open Go.Proofs
theorem Qi6 {b : UInt8} {n : Nat} (h : b.toNat = n) (hn : n < 256) : b = UInt8.ofNat n := by
 apply UInt8.toNat_inj.1; rw [h]; simp [UInt8.toNat_ofNat]; omega
theorem Qdg {s : List UInt8} {i : Nat} (hi : i < s.length) (hc : (Q3e s i).1 = 65533) : (3 ≤ (s.drop i).length ∧ (s.drop i).take 3 = [239, 191, 189]) ↔ ¬ Qgp s i := by
 constructor
 ·rintro ⟨h1, h2⟩ hn
  have hl : i + 2 < s.length := by simp at h1; omega
  have g : ∀ k, k < 3 → s[i + k]? = ([239, 191, 189] : List UInt8)[k]? := by
   intro k hk
   rw [← h2, List.getElem?_take, if_pos hk, List.getElem?_drop]
  have a0 : at8 s i = 239 := by have := g 0 (by omega); simp at this; simp [at8, List.getD_eq_getElem?_getD, this]
  have a1 : at8 s (i + 1) = 191 := by have := g 1 (by omega); simp at this; simp [at8, List.getD_eq_getElem?_getD, this]
  have a2 : at8 s (i + 2) = 189 := by have := g 2 (by omega); simp at this; simp [at8, List.getD_eq_getElem?_getD, this]
  have g1 : goes s (i + 1) := ⟨by omega, by omega, by omega⟩
  have g2 : goes s (i + 2) := ⟨by omega, by omega, by omega⟩
  unfold Qgp Q3e at hn
  rw [a0, a1, a2] at hn
  simp [g1, g2, Q70] at hn
 ·intro hn
  have h0 := Qao s i
  unfold Qgp at hn
  unfold Q3e at hn hc
  split at hn
  ·rename_i h1; rw [if_pos h1] at hc; simp at hc; omega
  rename_i h1; rw [if_neg h1] at hc
  split at hn
  ·rename_i h2
   rw [if_pos h2] at hc
   obtain ⟨_, _, g1, _⟩ := h2
   have := g1.2; simp at hc; omega
  rename_i h2; rw [if_neg h2] at hc
  split at hn
  ·rename_i h3
   rw [if_pos h3] at hc
   obtain ⟨_, _, g1, g2, _⟩ := h3
   have b1 := g1.2
   have b2 := g2.2
   have l2 := g2.1
   simp only at hc
   have a0 : at8 s i = 239 := by omega
   have a1 : at8 s (i + 1) = 191 := by omega
   have a2 : at8 s (i + 2) = 189 := by omega
   rw [Q4p (by omega)] at a0 a1 a2
   refine ⟨by simp; omega, ?_⟩
   apply List.ext_getElem?
   intro k
   rw [List.getElem?_take]
   by_cases hk : k < 3
   ·rw [if_pos hk, List.getElem?_drop]
    have : k = 0 ∨ k = 1 ∨ k = 2 := by omega
    rcases this with rfl | rfl | rfl
    ·rw [Nat.add_zero, List.getElem?_eq_getElem (by omega), Qi6 a0 (by omega)]; rfl
    ·rw [List.getElem?_eq_getElem (by omega), Qi6 a1 (by omega)]; rfl
    ·rw [List.getElem?_eq_getElem (by omega), Qi6 a2 (by omega)]; rfl
   ·rw [if_neg hk]; simp; omega
  rename_i h3; rw [if_neg h3] at hc
  split at hn
  ·rename_i h4
   rw [if_pos h4] at hc
   obtain ⟨_, _, g1, g2, g3, h5, h6⟩ := h4
   simp only at hc
   omega
  ·exact absurd rfl hn
theorem Qfs (N : Nat) (s : List UInt8) : Wb N s = some (decide (3 ≤ s.length ∧ s.take 3 = [239, 191, 189])) := by
 unfold Wb
 rw [Q02]
 by_cases h : 3 ≤ s.length
 ·have h1 : decide ((s.length : Int) ≥ 3) = true := by simp; omega
  have h2 : (Nat.ble 0 3 && Nat.ble 3 s.length) = true := by simp [h]
  rw [h1, h2]
  simp only [cond_true, List.drop_zero, Q0n]
  congr 1
  by_cases h3 : s.take 3 = [239, 191, 189] <;> simp [h, h3]
 ·have h1 : decide ((s.length : Int) ≥ 3) = false := by simp; omega
  rw [h1]
  simp [h]
def Qln (o : Option Nat) : Int := match o with
 | some p => p
 | none => -1
theorem Qi5 (s : List UInt8) : Tot (fun N => U8 N s) (Qln (Qgd s 0)) := by
 refine TotP.tot ?_
 show TotP (fun N => Y7 N s N 0) _
 refine Q6s (L := fun N n (p : Nat) => Y7 N s n p) (fun p => Qgd s p = Qgd s 0) (fun p => s.length - p) (fun p hp => ?_) 0 rfl
 show Stp _ _ _ (fun N n => cond (Nat.blt p s.length) _ _)
 refine Stp.cond (fun h => ?_) (fun h => ?_)
 ·have hl : p < s.length := by simpa [Nat.blt_eq] using h
  rw [Qar]
  have hw := Qe5 s p hl
  have hb : Qgd s p = (if (Q3e s p).1 = 0 ∨ Qgp s p then some p else Qgd s (p + (Q3e s p).2)) := by rw [Qgd, dif_pos hl]
  rw [Gh, Gh]
  refine Stp.cond (fun h0 => ?_) (fun h0 => ?_)
  ·have h0 : (Q3e s p).1 = 0 := by simpa using h0
   refine Stp.ret ?_
   rw [← hp, hb, if_pos (.inl h0)]; rfl
  have h0 : (Q3e s p).1 ≠ 0 := by simpa using h0
  refine Stp.cond (fun h1 => ?_) (fun h1 => ?_)
  ·have h1 : (Q3e s p).1 = 65533 := by have := of_decide_eq_true h1; omega
   refine Stp.chk (by simp; omega) ?_
   rw [List.take_length]
   refine Stp.bind (V := (· = decide (3 ≤ (s.drop p).length ∧ (s.drop p).take 3 = [239, 191, 189]))) ⟨_, rfl, .of fun N => Qfs N _⟩ ?_
   rintro v rfl
   have hwi := Qdg hl h1
   refine Stp.cond (fun h2 => ?_) (fun h2 => ?_)
   ·have h2 : ¬ (3 ≤ (s.drop p).length ∧ (s.drop p).take 3 = [239, 191, 189]) := by
     have : (!decide (3 ≤ (s.drop p).length ∧ (s.drop p).take 3 = [239, 191, 189])) = true := h2
     simpa only [Bool.not_eq_true', decide_eq_false_iff_not] using this
    have h3 : Qgp s p := Classical.byContradiction fun h => h2 (hwi.2 h)
    refine Stp.ret ?_
    rw [← hp, hb, if_pos (.inr h3)]; rfl
   ·have h2 : (3 ≤ (s.drop p).length ∧ (s.drop p).take 3 = [239, 191, 189]) := by
     have : (!decide (3 ≤ (s.drop p).length ∧ (s.drop p).take 3 = [239, 191, 189])) = false := h2
     simpa only [Bool.not_eq_false', decide_eq_true_eq] using this
    refine Stp.go (p + (Q3e s p).2) ⟨?_, by have := hw.1; have := hw.2.1; omega⟩
    rw [← hp, hb, if_neg]
    rintro (h | h)
    ·exact h0 h
    ·exact hwi.1 h2 h
  ·have h1 : (Q3e s p).1 ≠ 65533 := by intro e; rw [e] at h1; simp at h1
   refine Stp.go (p + (Q3e s p).2) ⟨?_, by have := hw.1; have := hw.2.1; omega⟩
   rw [← hp, hb, if_neg]
   rintro (h | h)
   ·exact h0 h
   ·unfold Qgp at h; rw [h] at h1; exact h1 rfl
 ·have hl : ¬ p < s.length := fun hlt => by
   have h' : Nat.blt p s.length = true := by rw [Nat.blt_eq]; exact hlt
   rw [h'] at h; cases h
  refine Stp.ret ?_
  rw [← hp, Qgd, dif_neg hl]; rfl
def Q92 (s : List UInt8) : Bool := decide (s.length ≤ 65535) && (Qgd s 0).isNone
theorem Qfy (o : Option Nat) : decide (Qln o = -1) = o.isNone := by
 cases o with
 | none => rfl
 | some p => simp [Qln]
theorem Q4a (s : List UInt8) : Tot (fun N => Z6 N s) (Q92 s) := by
 refine TotP.tot ?_
 show TotP (fun N => cond (Qa .leq (s.length : Int) 65535) _ _) _
 rw [Gm]
 refine TotP.cond (fun h => ?_) (fun h => ?_)
 ·have h : s.length ≤ 65535 := by have := of_decide_eq_true h; omega
  refine TotP.bindE (Qi5 s) (.ret ?_)
  rw [Gh, Qfy]; simp [Q92, h]
 ·have h : ¬ s.length ≤ 65535 := by have := of_decide_eq_false h; omega
  exact .ret (by simp [Q92, h])
end
end Go.Av
namespace Go.Av
noncomputable section
open Go.Proofs
theorem Qfz (s : List UInt8) : Tot (fun N => J7 N s) (decide (s ≠ []) && Q92 s) := by
 refine TotP.tot ?_
 show TotP (fun N => cond (Q0n .neq s []) _ _) _
 have e : Q0n .neq s [] = decide (s ≠ []) := by cases s <;> rfl
 rw [e]
 refine TotP.cond (fun h => ?_) (fun h => ?_)
 ·exact .bindE (Q4a s) (.ret (by rw [h]; rfl))
 ·exact .ret (by rw [h]; rfl)
theorem Qdd (c : UInt8) : ∀ (l : List UInt8) (i : Nat), (0 ≤ Q9t l c i) ↔ c ∈ l
 | [], i => by simp [Q9t]
 | b :: l, i => by
  unfold Q9t
  by_cases h : b == c
  ·rw [if_pos h]; have := eq_of_beq h; subst this; simp
  ·rw [if_neg h, Qdd c l (i + 1)]
   have : ¬ c = b := fun e => h (by simp [e])
   simp [this]
theorem Qj8 {c : Nat} (h : Q70 c) (h1 : 128 ≤ c) : ∃ l : List UInt8, (Utf8.encode (c : Int)).data.toList = l ∧ 2 ≤ l.length ∧ l.length ≤ 4 ∧ ∀ b ∈ l, 128 ≤ b.toNat := by
 have hv := (Q8o c).2 h
 unfold Utf8.encode
 simp only [hv, if_true, Int.toNat_natCast]
 have h2 := h.2
 have m : ∀ n, n < 256 → 128 ≤ n → 128 ≤ (UInt8.ofNat n).toNat := fun n a b => by rw [UInt8.toNat_ofNat']; omega
 rw [if_neg (by omega)]
 split
 ·refine ⟨_, rfl, by simp, by simp, fun b hb => ?_⟩
  simp only [List.mem_cons, List.not_mem_nil, or_false] at hb
  rcases hb with rfl | rfl <;> exact m _ (by omega) (by omega)
 split
 ·refine ⟨_, rfl, by simp, by simp, fun b hb => ?_⟩
  simp only [List.mem_cons, List.not_mem_nil, or_false] at hb
  rcases hb with rfl | rfl | rfl <;> exact m _ (by omega) (by omega)
 ·refine ⟨_, rfl, by simp, by simp, fun b hb => ?_⟩
  simp only [List.mem_cons, List.not_mem_nil, or_false] at hb
  rcases hb with rfl | rfl | rfl | rfl <;> exact m _ (by omega) (by omega)
theorem Qgk (M : Nat) : Qx (M + 3) [43, 35] (M + 3) 0 = some (-1) := by
 have e1 : Q1y [43, 35] 0 = (43, 1) := by decide
 have e2 : Q1y [43, 35] (0 + 1) = (35, 1) := by decide
 have b0 : Nat.blt 0 ([43, 35] : List UInt8).length = true := rfl
 have b1 : Nat.blt (0 + 1) ([43, 35] : List UInt8).length = true := rfl
 have b2 : Nat.blt (0 + 1 + 1) ([43, 35] : List UInt8).length = false := rfl
 have c1 : Qa .eql ((43 : Nat) : Int) 65533 = false := by decide
 have c2 : Qa .eql ((35 : Nat) : Int) 65533 = false := by decide
 rw [Qx, e1, b0, cond_true, c1, cond_false, Qx, e2, b1, cond_true, c2, cond_false, Qx, b2, cond_false]
theorem Qj5 {c : Nat} (hc : Q70 c) (N : Nat) : Zo N (c : Int) = some true := by
 unfold Zo
 simp only [Gm, Yz]
 obtain ⟨k1, k2⟩ := hc
 rw [decide_eq_true (show (0 : Int) ≤ (c : Int) by omega)]
 by_cases h5 : (c : Int) < 55296
 ·rw [decide_eq_true h5]; rfl
 ·have h6 : (57343 : Int) < (c : Int) := by omega
  have h7 : (c : Int) ≤ 1114111 := by omega
  rw [decide_eq_false h5, decide_eq_true h6, decide_eq_true h7]; rfl
theorem Qgh {c : Nat} (hc : Q70 c) (h : 128 ≤ c) (M : Nat) : Zv (M + 1) [43, 35] (c : Int) (M + 1) = some (-1) := by
 obtain ⟨l, hl, l1, l2, l3⟩ := Qj8 hc h
 rw [Zv]
 simp only [hl, Yz, G9]
 have ew : IntKind.wrap .i64 ((l.length : Int) - 1) = ((l.length - 1 : Nat) : Int) := by rw [w64 _ (by omega)]; omega
 rw [ew]
 by_cases h2 : l.length = 2
 ·have e1 : ((l.length - 1 : Nat) : Int) = ((1 : Nat) : Int) := by rw [h2]
  rw [e1]
  have e2 : idx l ((1 : Nat) : Int) = some l[1] := Xr (by omega)
  have e3 := l3 l[1] (List.getElem_mem _)
  generalize l[1] = y at e2 e3
  have e4 : decide (((35 : UInt8).toNat : Int) ≠ (y.toNat : Int)) = true := by
   have : (35 : UInt8).toNat = 35 := rfl
   simp only [ne_eq, decide_eq_true_eq]; omega
  have e5 : idx ([43, 35] : List UInt8) ((1 : Nat) : Int) = some 35 := rfl
  have e6 : IntKind.wrap .i64 (((1 : Nat) : Int) + 1) = 2 := by decide
  have e7 : decide (((1 : Nat) : Int) < ((([43, 35] : List UInt8).length : Nat) : Int)) = true := by decide
  have e8 : decide ((0 : Int) ≤ 2) = true := by decide
  rw [e7, cond_true, e5, Option.bind_some, e2, Option.bind_some, e4, cond_true, e6, e8, cond_true]
  have e9 : (Nat.ble (Int.toNat 2) ([43, 35] : List UInt8).length && Nat.ble ([43, 35] : List UInt8).length ([43, 35] : List UInt8).length) = true := by decide
  rw [e9, cond_true, Option.bind_some]
  rfl
 ·have e1 : decide (((l.length - 1 : Nat) : Int) < ((([43, 35] : List UInt8).length : Nat) : Int)) = false := by
   simp; omega
  rw [e1]; rfl
theorem Q6r {c : Nat} (hc : Q70 c) : TotP (fun N => Xw N [43, 35] (c : Int)) (fun v => decide (v ≥ 0) = decide (c = 43 ∨ c = 35)) := by
 show TotP (fun N => cond (Qa .leq 0 (c : Int)) _ _) _
 have e0 : Qa .leq 0 (c : Int) = true := by rw [Gm]; simp
 rw [e0]
 refine TotP.cond (fun _ => ?_) (fun h => by cases h)
 rw [Yz, Gh]
 refine TotP.cond (fun h => ?_) (fun h => ?_)
 ·have h : c < 128 := by have := of_decide_eq_true h; omega
  have ew : IntKind.wrap .u8 (c : Int) = c := by
   rw [IntWalk.u8_in]; omega
  refine TotP.bindE (v := Q9t [43, 35] (UInt8.ofNat c) 0) (.of fun N => ?_) (.ret ?_)
  ·show ((Zq N [43, 35] _).bind fun v => some v) = _
   rw [ew]; rfl
  ·have := Qdd (UInt8.ofNat c) [43, 35] 0
   rw [decide_eq_decide]
   show (0 ≤ _) ↔ _
   rw [this]
   have e1 : ∀ n, n < 256 → (UInt8.ofNat c = UInt8.ofNat n ↔ c = n) := fun n hn => by
    rw [← UInt8.toNat_inj, UInt8.toNat_ofNat', UInt8.toNat_ofNat']; omega
   have a := e1 43 (by omega)
   have b := e1 35 (by omega)
   simp only [List.mem_cons, List.not_mem_nil, or_false]
   exact or_congr a b
 have h : 128 ≤ c := by have := of_decide_eq_false h; omega
 have hn : decide (c = 43 ∨ c = 35) = false := by simp; omega
 refine TotP.cond (fun h1 => ?_) (fun h1 => ?_)
 ·-- bytes that are none
  refine ⟨-1, by rw [hn]; rfl, 3, fun N hN => ?_⟩
  obtain ⟨M, rfl⟩ : ∃ M, N = M + 3 := ⟨N - 3, by omega⟩
  exact Qgk M
 refine TotP.bindE (.of (Qj5 hc)) ?_
 refine TotP.cond (fun h => by cases h) (fun _ => ?_)
 refine ⟨-1, by rw [hn]; rfl, 1, fun N hN => ?_⟩
 obtain ⟨M, rfl⟩ : ∃ M, N = M + 1 := ⟨N - 1, by omega⟩
 exact Qgh hc h M
end
end Go.Av
namespace Go.Av
noncomputable section
open Go.Proofs
def Qi7 (s : List UInt8) : Bool := s.any fun b => b.toNat == 43 || b.toNat == 35
theorem Qhd {s : List UInt8} {j : Nat} (hj : j < s.length) (h : at8 s j = 43 ∨ at8 s j = 35) : Qi7 s = true := by
 unfold Qi7
 rw [List.any_eq_true]
 refine ⟨s[j], List.getElem_mem _, ?_⟩
 rw [Q4p hj] at h
 rcases h with h | h <;> simp [h]
theorem Qh9 {s : List UInt8} (h : ∀ j, j < s.length → at8 s j ≠ 43 ∧ at8 s j ≠ 35) : Qi7 s = false := by
 unfold Qi7
 rw [List.any_eq_false]
 intro b hb
 obtain ⟨j, hj, rfl⟩ := List.getElem_of_mem hb
 have := h j hj
 rw [Q4p hj] at this
 simp [this.1, this.2]
def asciiS : List Bool := (List.range 256).map fun n => n == 43 || n == 35
theorem Qdo (n : Nat) (h : n < 256) : idx asciiS (n : Int) = some (n == 43 || n == 35) := by
 have hl : n < asciiS.length := by simp [asciiS]; exact h
 rw [Xr hl]; simp [asciiS]
set_option maxRecDepth 20000 in
theorem Q8a (s : List UInt8) (hs : s.length ≤ maxLen) : TotP (fun N => Xf N s) (fun v => decide (v ≥ 0) = Qi7 s) := by
 have hm := Q3z
 show TotP (fun N => cond (Q0n .eql [43, 35] []) _ _) _
 refine TotP.cond (fun h => by cases h) (fun _ => ?_)
 refine TotP.bindE (v := decide ((s.length : Int) > 8)) (.of fun N => rfl) ?_
 refine TotP.cond (fun _ => ?_) (fun _ => ?_)
 ·refine Q45 (L := fun N n i => Zn N s n i) s.length (fun i => ∀ j, j < i → at8 s j ≠ 43 ∧ at8 s j ≠ 35) (fun i hi hj => ?_) (fun hj => ?_) (fun j hj => by omega)
  ·show Stp _ _ _ (fun N n => cond (Qa .lss (i : Int) (s.length : Int)) _ _)
   refine Stp.cond (fun _ => ?_) (fun h => by rw [Yz] at h; have := of_decide_eq_false h; omega)
   refine Stp.idx (Xr hi) ?_
   have hb := UInt8.toNat_lt s[i]
   refine Stp.chk (by simp; omega) ?_
   refine Stp.idx (Qdo _ (by omega)) ?_
   refine Stp.cond (fun h => ?_) (fun h => ?_)
   ·refine Stp.ret ?_
    rw [Qhd hi (by rw [Q4p hi]; simpa using h)]
    simp
   ·rw [w64 _ (by omega)]
    refine Stp.go _ ⟨by omega, fun j hj' => ?_⟩
    by_cases e : j = i
    ·subst e; rw [Q4p hi]; simpa using h
    ·exact hj j (by omega)
  ·show Stp _ _ _ (fun N n => cond (Qa .lss (s.length : Int) (s.length : Int)) _ _)
   refine Stp.cond (fun h => by rw [Yz] at h; have := of_decide_eq_true h; omega) (fun _ => ?_)
   refine Stp.ret ?_
   rw [Qh9 hj]; rfl
 ·refine Q6s (L := fun N n (p : Nat) => Zp N s n p) (fun p => ∀ j, j < p → at8 s j ≠ 43 ∧ at8 s j ≠ 35) (fun p => s.length - p) (fun p hp => ?_) 0 (fun j hj => by omega)
  show Stp _ _ _ (fun N n => cond (Nat.blt p s.length) _ _)
  refine Stp.cond (fun h => ?_) (fun h => ?_)
  ·have hl : p < s.length := by simpa [Nat.blt_eq] using h
   rw [Qar]
   obtain ⟨w1, w2, w3, w4, w5, w6⟩ := Qe5 s p hl
   refine Stp.bind (Q6r w6) ?_
   intro v hv
   rw [Q02, hv]
   refine Stp.cond (fun h => ?_) (fun h => ?_)
   ·have h := of_decide_eq_true h
    have h128 : at8 s p < 128 := w3.1 (by omega)
    refine Stp.ret ?_
    rw [Qhd hl (by rw [← (w4 h128).1]; exact h)]
    simp
   ·have h := of_decide_eq_false h
    refine Stp.go _ ⟨fun j hj => ?_, by omega⟩
    by_cases e : j < p
    ·exact hp j e
    by_cases e2 : j = p
    ·subst e2
     by_cases h128 : at8 s j < 128
     ·rw [(w4 h128).1] at h; omega
     ·omega
    ·have := w5 (j - p) (by omega) (by omega)
     rw [show p + (j - p) = j by omega] at this
     omega
  ·refine Stp.ret ?_
   rw [Qh9 (fun j hj => hp j ?_)]
   ·rfl
   ·have : ¬ p < s.length := fun hlt => by
     have h' : Nat.blt p s.length = true := by rw [Nat.blt_eq]; exact hlt
     rw [h'] at h; cases h
    omega
theorem Q90 (s : List UInt8) (hs : s.length ≤ maxLen) : Tot (fun N => Yu N s) (Qi7 s) := by
 refine TotP.tot ?_
 refine TotP.bind (Q8a s hs) (fun v hv => .ret ?_)
 rw [Q02]; exact hv
def Qf8 (s : List UInt8) : Bool := decide (s ≠ []) && Q92 s && !Qi7 s
theorem Q75 (s : List UInt8) (hs : s.length ≤ maxLen) : Tot (fun N => X1 N s) (Qf8 s) := by
 refine TotP.tot ?_
 refine TotP.bindE (Qfz s) ?_
 refine TotP.cond (fun h => ?_) (fun h => ?_)
 ·refine TotP.bindE (Q90 s hs) (.ret ?_)
  unfold Qf8; rw [h]; rfl
 ·exact .ret (by unfold Qf8; rw [h]; rfl)
end
end Go.Av
namespace Go.Av
noncomputable section
def Any {R : Type} (f : Nat → Option R) : Prop := TotP f fun _ => True
theorem Q7b (N : Nat) (x a b : Int) : Qh N x a b = some (decide (a ≤ x) && decide (x ≤ b)) := by
 unfold Qh
 rw [Q02, Gm]
 by_cases h : a ≤ x
 ·rw [decide_eq_true (p := x ≥ a) h]; rfl
 ·rw [decide_eq_false (p := x ≥ a) h]; rfl
theorem Qj1 (s : List UInt8) (hs : s.length = 2) : Any (fun N => Ga N s) := by
 match s, hs with
 | [a, b], _ => exact ⟨_, trivial, 3, fun N hN => by
   obtain ⟨M, rfl⟩ : ∃ M, N = M + 3 := ⟨N - 3, by omega⟩
   rfl⟩
theorem Qd3 (s : List UInt8) (hs : s.length ≤ maxLen) : Any (fun N => U9 N s) := by
 show TotP (fun N => cond (Qa .neq (s.length : Int) 2) _ _) _
 rw [G9]
 refine TotP.cond (fun _ => .ret trivial) (fun h => ?_)
 have h : s.length = 2 := by have := of_decide_eq_false h; omega
 refine TotP.bindE (Q75 s hs) ?_
 refine TotP.cond (fun _ => .ret trivial) (fun _ => ?_)
 exact TotP.bind (Qj1 s h) (fun _ _ => .ret trivial)
theorem Q13 (n size : Int) : TotP (fun N => Xg N n size) (fun l => l.length ≤ 16) := by
 show TotP (fun N => cond (Qa .leq size 0) _ _) _
 rw [Gm]
 refine TotP.cond (fun _ => .ret (by simp)) (fun h => ?_)
 have h : 0 < size := by have := of_decide_eq_false h; omega
 obtain ⟨m, hm, hm16⟩ : ∃ m : Nat, ifB (decide (16 < size)) (16 : Int) size = (m : Int) ∧ m ≤ 16 := by
  by_cases g : 16 < size
  ·exact ⟨16, by rw [decide_eq_true g]; rfl, by omega⟩
  ·exact ⟨size.toNat, by rw [decide_eq_false g]; show size = _; omega, by omega⟩
 rw [hm]
 refine TotP.chk (by simp only [Bool.and_eq_true, decide_eq_true_eq]; omega) ?_
 have := Q6s (L := fun N n' (p : Int × List Int) => Yo N n size n' p.1 p.2) (Q := fun l : List UInt8 => l.length ≤ 16) (fun p => ∃ i : Nat, p.1 = (i : Int) ∧ i ≤ m ∧ p.2.length = m) (fun p => m - p.1.toNat)
  ?_ (0, List.replicate ((m : Int).toNat) 0) ⟨0, rfl, by omega, by simp⟩
 ·exact this
 rintro ⟨s, l⟩ ⟨i, hs, hi, hl⟩
 simp only at hs hl
 subst hs
 show Stp _ _ _ (fun N n' => cond (Qa .lss (i : Int) (ifB (decide (16 < size)) 16 size)) _ _)
 rw [hm, Yz, Yz]
 refine Stp.cond (fun h => ?_) (fun h => ?_)
 ·have h := of_decide_eq_true h
  have e1 : IntKind.wrap .i64 ((i : Int) + 1) = ((i + 1 : Nat) : Int) := by rw [w64 _ (by omega)]; omega
  refine Stp.cond (fun h8 => ?_) (fun h8 => ?_)
  ·have h8 := of_decide_eq_true h8
   refine Stp.chk ?_ ?_
   ·rw [w64 (8 * (i : Int)) (by omega)]
    have : i = 0 ∨ i = 1 ∨ i = 2 ∨ i = 3 ∨ i = 4 ∨ i = 5 ∨ i = 6 ∨ i = 7 := by omega
    rcases this with rfl | rfl | rfl | rfl | rfl | rfl | rfl | rfl <;> rfl
   ·have e2 : IntKind.wrap .i64 (IntKind.wrap .i64 ((m : Int) - 1) - (i : Int)) = ((m - 1 - i : Nat) : Int) := by rw [w64 ((m : Int) - 1) (by omega), w64 _ (by omega)]; omega
    rw [e1, e2]
    refine Stp.idx (Xr (show m - 1 - i < l.length by omega)) ?_
    refine Stp.go (L := fun N n' (p : Int × List Int) => Yo N n size n' p.1 p.2) (_, _) ⟨⟨i + 1, rfl, by omega, by simp [hl]⟩, ?_⟩
    simp only [Int.toNat_natCast]; omega
  ·rw [e1]
   refine Stp.go (L := fun N n' (p : Int × List Int) => Yo N n size n' p.1 p.2) (_, _) ⟨⟨i + 1, rfl, by omega, hl⟩, ?_⟩
   simp only [Int.toNat_natCast]; omega
 ·exact Stp.ret (by simp [hl]; exact hm16)
theorem Q5o (x : Int) : TotP (fun N => Xk N x) (fun r => r.1.length ≤ 268435456) := by
 show TotP (fun N => (Vy N x).bind _) _
 have hm : ∀ N, Vy N x = some (decide (0 ≤ x) && decide (x ≤ 268435455)) := fun N => by
  show cond (Qa .geq x 0) (some (Qa .leq x 268435455)) (some false) = _
  rw [Q02, Gm]
  by_cases h : 0 ≤ x
  ·rw [decide_eq_true (p := x ≥ 0) h]; rfl
  ·rw [decide_eq_false (p := x ≥ 0) h]; rfl
 refine TotP.bindE (.of hm) ?_
 refine TotP.cond (fun _ => .ret (by simp)) (fun h => ?_)
 have h : 0 ≤ x ∧ x ≤ 268435455 := by simpa using h
 have := Q6s (L := fun N n' (p : Int × List Int) => Yi N n' p.1 p.2) (Q := fun r : List UInt8 × Int => r.1.length ≤ 268435456) (fun p => 0 ≤ p.1 ∧ (p.2.length : Int) ≤ 268435455 - p.1) (fun p => p.1.toNat)
  ?_ (x, []) ⟨h.1, by simp; omega⟩
 ·exact this
 rintro ⟨s, l⟩ ⟨h1, h2⟩
 simp only at h1 h2
 show Stp _ _ _ (fun N n' => cond (Qa .geq s 128) _ _)
 rw [Q02]
 refine Stp.cond (fun h => ?_) (fun h => ?_)
 ·have h := of_decide_eq_true h
  refine Stp.chk (by rw [Nat.ble_eq]; dsimp only; omega) ?_
  have e : s.tdiv 128 = s / 128 := Int.tdiv_eq_ediv_of_nonneg h1
  rw [e, w64 _ (by omega)]
  refine Stp.go (L := fun N n' (p : Int × List Int) => Yi N n' p.1 p.2) (_, _) ⟨⟨by simp only; omega, by simp only [List.length_append, List.length_cons, List.length_nil]; omega⟩, by simp only; omega⟩
 ·refine Stp.chk (by rw [Nat.ble_eq]; dsimp only; omega) ?_
  exact Stp.ret (by simp; omega)
theorem Q5w (s : List UInt8) : TotP (fun N => W0 N s) (fun r => r.1.length ≤ 65551) := by
 show TotP (fun N => cond (Qa .gtr (s.length : Int) 65535) _ _) _
 rw [Q1a]
 refine TotP.cond (fun _ => .ret (by simp)) (fun h => ?_)
 have h := of_decide_eq_false h
 refine TotP.bind (f := fun N => Wt N s) (V := fun l => l.length ≤ 65551) ?_ (fun v hv => .ret hv)
 refine TotP.bind (Q13 _ _) (fun v hv => ?_)
 refine TotP.chk (by rw [Nat.ble_eq]; omega) (.ret ?_)
 simp; omega
theorem Qea (h : W3) (hh : h.Node.length ≤ 300) : TotP (fun N => Yj N h) (fun l => l.length ≤ 400) := by
 refine TotP.bind (Q13 _ _) (fun a ha => ?_)
 refine TotP.bind (Q13 _ _) (fun b hb => ?_)
 refine TotP.chk (by rw [Nat.ble_eq]; omega) ?_
 refine TotP.bind (Q13 _ _) (fun c hc => ?_)
 refine TotP.chk (by rw [Nat.ble_eq]; simp; omega) ?_
 refine TotP.chk (by rw [Nat.ble_eq]; simp; omega) (.ret ?_)
 simp; omega
theorem Q8d (h : W3) : Any (fun N => W1 N h) := by
 refine TotP.bind (V := fun _ => True) ?_ (fun _ _ => .ret trivial)
 show TotP (fun N => cond (Qa .geq h.Radius 0) _ _) _
 refine TotP.cond (fun _ => TotP.cond (fun _ => TotP.cond (fun _ => .ret trivial) (fun _ => .ret trivial)) (fun _ => .ret trivial)) (fun _ => .ret trivial)
section
variable (e : Yb) (lm : V9) (h1 : e.Hops.length ≤ 8) (h2 : ∀ h ∈ e.Hops, h.Node.length ≤ 300)
include h1 h2
theorem Qkc : Any (fun N => Y8 N e lm N [] 0) := by
 have := Q6s (L := fun N n' (p : List UInt8 × Int) => Y8 N e lm n' p.1 p.2) (Q := fun _ : Bool => True) (fun p => ∃ i : Nat, p.2 = (i : Int) ∧ i ≤ e.Hops.length ∧ p.1.length ≤ i * 400) (fun p => e.Hops.length - p.2.toNat)
  ?_ ([], 0) ⟨0, rfl, by omega, by simp⟩
 ·exact this
 rintro ⟨l, s⟩ ⟨i, hs, hi, hl⟩
 simp only at hs hl
 subst hs
 show Stp _ _ _ (fun N n' => cond (Qa .lss (i : Int) ((Q7 W3.cells e.Hops).length : Int)) _ _)
 rw [Qo, Yz]
 refine Stp.cond (fun h => ?_) (fun h => ?_)
 ·have h := of_decide_eq_true h
  have hi : i < e.Hops.length := by omega
  refine Stp.idx (Xr hi) ?_
  refine Stp.bind (Qea _ (h2 _ (List.getElem_mem _))) (fun v hv => ?_)
  refine Stp.chk (by rw [Nat.ble_eq]; simp only; omega) ?_
  rw [w64 _ (by omega)]
  refine Stp.go (L := fun N n' (p : List UInt8 × Int) => Y8 N e lm n' p.1 p.2) (_, _) ⟨⟨i + 1, by simp only; omega, by omega, by simp only [List.length_append]; omega⟩, ?_⟩
  simp only; omega
 ·refine Stp.cond (fun _ => Stp.ret trivial) (fun _ => ?_)
  exact Stp.chk (by rw [Nat.ble_eq]; simp only [List.length_cons, List.length_nil]; omega) (Stp.ret trivial)
theorem Qil : Any (fun N => Zz N e lm N [] 0) := by
 have := Q6s (L := fun N n' (p : List UInt8 × Int) => Zz N e lm n' p.1 p.2) (Q := fun _ : Bool => True) (fun p => ∃ i : Nat, p.2 = (i : Int) ∧ i ≤ e.Hops.length ∧ p.1.length ≤ i * 400) (fun p => e.Hops.length - p.2.toNat)
  ?_ ([], 0) ⟨0, rfl, by omega, by simp⟩
 ·exact this
 rintro ⟨l, s⟩ ⟨i, hs, hi, hl⟩
 simp only at hs hl
 subst hs
 show Stp _ _ _ (fun N n' => cond (Qa .lss (i : Int) ((Q7 W3.cells e.Hops).length : Int)) _ _)
 rw [Qo, Yz]
 refine Stp.cond (fun h => ?_) (fun h => ?_)
 ·have h := of_decide_eq_true h
  have hi : i < e.Hops.length := by omega
  refine Stp.idx (Xr hi) ?_
  refine Stp.bind (Qea _ (h2 _ (List.getElem_mem _))) (fun v hv => ?_)
  refine Stp.chk (by rw [Nat.ble_eq]; simp only; omega) ?_
  rw [w64 _ (by omega)]
  refine Stp.go (L := fun N n' (p : List UInt8 × Int) => Zz N e lm n' p.1 p.2) (_, _) ⟨⟨i + 1, by simp only; omega, by omega, by simp only [List.length_append]; omega⟩, ?_⟩
  simp only; omega
 ·refine Stp.cond (fun _ => Stp.ret trivial) (fun _ => ?_)
  exact Stp.chk (by rw [Nat.ble_eq]; simp only [List.length_cons, List.length_nil]; omega) (Stp.ret trivial)
theorem Qk4 : Any (fun N => Y9 N e lm N 0) := by
 refine Q45 (L := fun N n' s => Y9 N e lm n' s) e.Hops.length (fun _ => True) (fun i hi _ => ?_) (fun _ => ?_) trivial
 ·show Stp _ _ _ (fun N n' => cond (Qa .lss (i : Int) ((Q7 W3.cells e.Hops).length : Int)) _ _)
  rw [Qo, Yz, decide_eq_true (by omega), Q02, decide_eq_true (show (i : Int) ≥ 0 by omega), w64 _ (by omega)]
  show Stp _ _ _ (fun N n' => (idx e.Hops (i : Int)).bind _)
  refine Stp.idx (Xr hi) ?_
  refine Stp.bind (Q8d _) (fun v _ => ?_)
  refine Stp.cond (fun _ => Stp.ret trivial) (fun _ => ?_)
  exact Stp.go (L := fun N n' s => Y9 N e lm n' s) _ ⟨by omega, trivial⟩
 ·show Stp _ _ _ (fun N n' => cond (Qa .lss (e.Hops.length : Int) ((Q7 W3.cells e.Hops).length : Int)) _ _)
  rw [Qo, Yz, decide_eq_false (by omega)]
  exact Stp.fin (Qkc e lm h1 h2)
theorem Qiq : Any (fun N => Zy N e lm N 0) := by
 refine Q45 (L := fun N n' s => Zy N e lm n' s) e.Hops.length (fun _ => True) (fun i hi _ => ?_) (fun _ => ?_) trivial
 ·show Stp _ _ _ (fun N n' => cond (Qa .lss (i : Int) ((Q7 W3.cells e.Hops).length : Int)) _ _)
  rw [Qo, Yz, decide_eq_true (by omega), Q02, decide_eq_true (show (i : Int) ≥ 0 by omega), w64 _ (by omega)]
  show Stp _ _ _ (fun N n' => (idx e.Hops (i : Int)).bind _)
  refine Stp.idx (Xr hi) ?_
  refine Stp.bind (Q8d _) (fun v _ => ?_)
  refine Stp.cond (fun _ => Stp.ret trivial) (fun _ => ?_)
  exact Stp.go (L := fun N n' s => Zy N e lm n' s) _ ⟨by omega, trivial⟩
 ·show Stp _ _ _ (fun N n' => cond (Qa .lss (e.Hops.length : Int) ((Q7 W3.cells e.Hops).length : Int)) _ _)
  rw [Qo, Yz, decide_eq_false (by omega)]
  exact Stp.fin (Qil e lm h1 h2)
theorem Qed (ht : e.Topic.length ≤ maxLen) : Any (fun N => Z0 N e) := by
 refine TotP.bindE (.of fun N => Q7b N _ _ _) ?_
 refine TotP.cond (fun _ => .ret trivial) (fun _ => ?_)
 refine TotP.bind (Qd3 _ ht) (fun v _ => ?_)
 refine TotP.cond (fun _ => TotP.cond (fun _ => .ret trivial) (fun _ => ?_)) (fun _ => ?_)
 ·refine TotP.bindE (v := ⟨1048576, 32⟩) (.of fun N => rfl) ?_
  refine TotP.bindE (v := true) (.of fun N => rfl) ?_
  refine TotP.cond (fun h => nomatch h) (fun _ => ?_)
  exact TotP.cond (fun _ => .ret trivial) (fun _ => Qk4 e _ h1 h2)
 ·refine TotP.bindE (v := ⟨1048576, 32⟩) (.of fun N => rfl) ?_
  refine TotP.bindE (v := true) (.of fun N => rfl) ?_
  refine TotP.cond (fun h => nomatch h) (fun _ => ?_)
  exact TotP.cond (fun _ => .ret trivial) (fun _ => Qiq e _ h1 h2)
end
end
end Go.Av
namespace Go.Av
noncomputable section
theorem Qfv (a : List Int) : Any (fun N => V8 N a []) := by
 cases a with
 | nil => exact ⟨true, trivial, 1, fun N hN => by obtain ⟨M, rfl⟩ : ∃ M, N = M + 1 := ⟨N - 1, by omega⟩; rfl⟩
 | cons x l =>
  refine ⟨false, trivial, 0, fun N _ => ?_⟩
  show cond (Qa .neq ((Q7 (cI .i64) (x :: l)).length : Int) 0) (some false) _ = _
  rw [Qo, G9, decide_eq_true (by simp only [List.length_cons]; omega)]; rfl
theorem Qa7 (a : List Z2) : Any (fun N => X6 N a []) := by
 cases a with
 | nil => exact ⟨true, trivial, 1, fun N hN => by obtain ⟨M, rfl⟩ : ∃ M, N = M + 1 := ⟨N - 1, by omega⟩; rfl⟩
 | cons x l =>
  refine ⟨false, trivial, 0, fun N _ => ?_⟩
  show cond (Qa .neq ((Q7 Z2.cells (x :: l)).length : Int) 0) (some false) _ = _
  rw [Qo, G9, decide_eq_true (by simp only [List.length_cons]; omega)]; rfl
theorem Q85 (a : List Qw) : Any (fun N => Yx N a []) := by
 cases a with
 | nil => exact ⟨true, trivial, 1, fun N hN => by obtain ⟨M, rfl⟩ : ∃ M, N = M + 1 := ⟨N - 1, by omega⟩; rfl⟩
 | cons x l =>
  refine ⟨false, trivial, 0, fun N _ => ?_⟩
  show cond (Qa .neq ((Q7 Qw.cells (x :: l)).length : Int) 0) (some false) _ = _
  rw [Qo, G9, decide_eq_true (by simp only [List.length_cons]; omega)]; rfl
theorem Qcj (a : Vv) : Any (fun N => V6 N a ⟨0, 0, [], []⟩) := by
 refine TotP.cond (fun _ => .ret trivial) (fun _ => ?_)
 refine TotP.cond (fun _ => .ret trivial) (fun _ => ?_)
 refine TotP.cond (fun _ => .ret trivial) (fun _ => ?_)
 refine TotP.cond (fun _ => .ret trivial) (fun h => ?_)
 rw [Q8.rows_eq, Qo, G9] at h
 have h := of_decide_eq_false h
 have h0 : a.Values.length = 0 := by
  have : ((Q8.rows ([] : List Q8)).length : Int) = 0 := rfl
  dsimp only at h
  rw [this] at h; omega
 refine ⟨true, trivial, 1, fun N hN => ?_⟩
 obtain ⟨M, rfl⟩ : ∃ M, N = M + 1 := ⟨N - 1, by omega⟩
 show cond (Qa .lss 0 ((Q8.rows a.Values).length : Int)) _ _ = _
 rw [Q8.rows_eq, Qo, Yz, h0]; rfl
theorem Qf4 (e : Yb) : Any (fun N => Qc N e) := by
 refine TotP.bind (V := fun _ => True) ?_ (fun _ _ => ?_)
 ·refine TotP.bindE (.of fun N => rfl) ?_
  refine TotP.bindE (.of fun N => rfl) ?_
  refine TotP.cond (fun _ => ?_) (fun _ => .ret trivial)
  refine TotP.bind (V := fun _ => True) ?_ (fun _ _ => ?_)
  ·refine TotP.cond (fun _ => TotP.cond (fun _ => TotP.cond (fun _ => TotP.cond (fun _ => ?_) (fun _ => .ret trivial)) (fun _ => .ret trivial)) (fun _ => .ret trivial)) (fun _ => .ret trivial)
   exact TotP.bind (Q85 _) (fun _ _ => .ret trivial)
  ·refine TotP.cond (fun _ => ?_) (fun _ => .ret trivial)
   refine TotP.bind (Qfv _) (fun _ _ => TotP.cond (fun _ => ?_) (fun _ => .ret trivial))
   refine TotP.bind (Qa7 _) (fun _ _ => TotP.cond (fun _ => ?_) (fun _ => .ret trivial))
   exact TotP.bind (Q85 _) (fun _ _ => .ret trivial)
 ·refine TotP.cond (fun _ => ?_) (fun _ => .ret trivial)
  refine TotP.cond (fun _ => ?_) (fun _ => .ret trivial)
  exact TotP.bind (Qcj _) (fun _ _ => .ret trivial)
section
variable {R S T : Type} {L : Nat → Nat → S → Option R} {P : S → Prop} {Q : R → Prop}
theorem Stp.optN {f : Nat → Nat → T → Option R} {z : Nat → Nat → Option R} (h : Stp L P Q z) : Stp L P Q (fun N n => optC none (f N n) (z N n)) := h
theorem Stp.optS {v : T} {f : Nat → Nat → T → Option R} {z : Nat → Nat → Option R} (h : Stp L P Q (fun N n => f N n v)) : Stp L P Q (fun N n => optC (some v) (f N n) (z N n)) := h
end
theorem Q8t {T : Type} {x : Int} {v : T} : ∀ {tab : List (Int × T)}, Ji tab x = some v → (x, v) ∈ tab
 | (k, w) :: r, h => by
  unfold Ji at h
  cases hb : x == k with
  | true => rw [hb] at h; have e := eq_of_beq hb; subst e; cases h; exact List.mem_cons_self
  | false => rw [hb] at h; exact List.mem_cons_of_mem _ (Q8t h)
 | [], h => nomatch h
theorem Qfr {x : Int} {v : Qg} (h : Ji F_prop_rules_tab x = some v) : 1 ≤ x ∧ x ≤ 42 := by
 have hall : (F_prop_rules_tab.all fun q => decide (1 ≤ q.1) && decide (q.1 ≤ 42)) = true := by decide +kernel
 have := List.all_eq_true.1 hall _ (Q8t h)
 simpa using this
theorem Qio (r : Qg) : Any (fun N => Vd N r 3) := ⟨_, trivial, 0, fun _ _ => rfl⟩
theorem Qdn (r : Qg) (p : Qw) (h1 : p.Text.length ≤ maxLen) : Any (fun N => V2 N r 3 p) := by
 refine TotP.bind (Qio r) (fun _ _ => ?_)
 have num : Any (fun N => W9 N r p) := TotP.cond (fun _ => .ret trivial) (fun _ => TotP.cond (fun _ => .ret trivial) (fun _ => TotP.cond (fun _ => .ret trivial) (fun _ => TotP.cond (fun _ => .ret trivial) (fun _ => .ret trivial))))
 have txt : Any (fun N => (Z6 N p.Text).bind fun v12 => cond (!v12) (some (6 : Int)) ((Z6 N p.Value).bind fun v15 => cond (!v15) (some 6) (cond (Qa .eql p.ID 8) ((X1 N p.Text).bind fun v19 => cond (!v19) (some 9) (some 0)) (some 0)))) := by
  refine TotP.bindE (Q4a _) (TotP.cond (fun _ => .ret trivial) (fun _ => ?_))
  refine TotP.bindE (Q4a _) (TotP.cond (fun _ => .ret trivial) (fun _ => ?_))
  refine TotP.cond (fun _ => ?_) (fun _ => .ret trivial)
  exact TotP.bindE (Q75 _ h1) (TotP.cond (fun _ => .ret trivial) (fun _ => .ret trivial))
 have six : Any (fun N => cond (Qa .eql r.shape 6) (cond (Qa .gtr (p.Text.length : Int) 65535) (some (2 : Int)) (some 0)) ((Z6 N p.Text).bind fun v12 => cond (!v12) (some (6 : Int)) ((Z6 N p.Value).bind fun v15 => cond (!v15) (some 6) (cond (Qa .eql p.ID 8) ((X1 N p.Text).bind fun v19 => cond (!v19) (some 9) (some 0)) (some 0))))) :=
  TotP.cond (fun _ => TotP.cond (fun _ => .ret trivial) (fun _ => .ret trivial)) (fun _ => txt)
 refine TotP.cond (fun _ => .ret trivial) (fun _ => ?_)
 refine TotP.cond (fun _ => TotP.bind num (fun _ _ => .ret trivial)) (fun _ => ?_)
 refine TotP.cond (fun _ => .ret trivial) (fun _ => ?_)
 refine TotP.cond (fun _ => ?_) (fun _ => six)
 exact TotP.cond (fun _ => .ret trivial) (fun _ => six)
theorem Qf6 (p : Qw) : Tot (fun N => V2 N ⟨0, 0, 0, 0⟩ 3 p) 9 := .of fun _ => rfl
theorem Qee (i : Int) : Any (fun N => U0 N 3 i) := TotP.cond (fun _ => .ret trivial) (fun _ => TotP.cond (fun _ => .ret trivial) (fun _ => .ret trivial))
theorem Qem (s : Int) (p : Qw) : TotP (fun N => Xs N s p) (fun l => l.length ≤ 268500000) := by
 refine TotP.cond (fun _ => TotP.bind (Q13 _ _) (fun v hv => .ret (by omega))) (fun _ => ?_)
 refine TotP.cond (fun _ => TotP.bind (Q13 _ _) (fun v hv => .ret (by omega))) (fun _ => ?_)
 refine TotP.cond (fun _ => TotP.bind (Q13 _ _) (fun v hv => .ret (by omega))) (fun _ => ?_)
 refine TotP.cond (fun _ => TotP.bind (Q5o _) (fun v hv => .ret (by omega))) (fun _ => ?_)
 refine TotP.bind (Q5w _) (fun v hv => ?_)
 refine TotP.cond (fun _ => .ret (by omega)) (fun _ => ?_)
 refine TotP.bind (Q5w _) (fun w hw => ?_)
 exact TotP.chk (by rw [Nat.ble_eq]; omega) (.ret (by simp only [List.length_append]; omega))
def Qge (l : List Qw) (N n : Nat) (p : Int × List Int × List Int) : Option (List UInt8 × Int) := Qr N 3 l n p.1 p.2.1 p.2.2
theorem Qdb (l : List Qw) (hl : l.length ≤ 30) (hp : ∀ p ∈ l, p.Text.length ≤ maxLen) (a : List Int) (ha : a.length = 64) : TotP (fun N => Qr N 3 l N 0 a []) (fun _ => True) := by
 have := Q6s (L := Qge l) (Q := fun _ => True) (fun p => ∃ i : Nat, p.1 = (i : Int) ∧ i ≤ l.length ∧ p.2.1.length = 64 ∧ p.2.2.length ≤ i * 268600000) (fun p => l.length - p.1.toNat)
  ?_ (0, a, []) ⟨0, rfl, by omega, ha, by simp⟩
 ·exact this
 rintro ⟨s, b, o⟩ ⟨i, hs, hi, hb, ho⟩
 simp only at hs hb ho
 subst hs
 show Stp _ _ _ (fun N n' => cond (Qa .lss (i : Int) ((Q7 Qw.cells l).length : Int)) _ _)
 rw [Qo, Yz]
 refine Stp.cond (fun h => ?_) (fun h => ?_)
 ·have h := of_decide_eq_true h
  have hi : i < l.length := by omega
  refine Stp.idx (Xr hi) ?_
  have hT := hp _ (List.getElem_mem hi)
  generalize l[i] = y at hT
  have e1 : IntKind.wrap .i64 ((i : Int) + 1) = ((i + 1 : Nat) : Int) := by rw [w64 _ (by omega)]; omega
  have go : ∀ (b' o' : List Int), b'.length = 64 → o'.length ≤ (i + 1) * 268600000 → Stp (Qge l) (fun s' => (∃ i : Nat, s'.1 = (i : Int) ∧ i ≤ l.length ∧ s'.2.1.length = 64 ∧ s'.2.2.length ≤ i * 268600000) ∧ l.length - s'.1.toNat < l.length - (i : Int).toNat) (fun _ => True) (fun N n => Qr N 3 l n (IntKind.wrap .i64 ((i : Int) + 1)) b' o') := by
   intro b' o' h1 h2
   rw [e1]
   exact Stp.go (L := Qge l) ((i + 1 : Nat), b', o') ⟨⟨i + 1, rfl, by omega, h1, h2⟩, by simp only [Int.toNat_natCast]; omega⟩
  show Stp _ _ _ (fun N n => optC (Ji F_prop_rules_tab y.ID) _ _)
  cases hk : Ji F_prop_rules_tab y.ID with
  | none =>
   refine Stp.optN ?_
   refine Stp.bind (V := (· = 9)) ⟨9, rfl, Qf6 y⟩ (fun v hv => ?_)
   subst hv
   exact Stp.cond (fun _ => Stp.ret trivial) (fun h => nomatch h)
  | some r =>
   have hid := Qfr hk
   obtain ⟨k, hk'⟩ : ∃ k : Nat, y.ID = (k : Int) := ⟨y.ID.toNat, by omega⟩
   have hk64 : k < 64 := by omega
   refine Stp.optS ?_
   refine Stp.bind (Qdn r y hT) (fun v _ => ?_)
   refine Stp.cond (fun _ => Stp.ret trivial) (fun _ => ?_)
   refine Stp.chk (by rw [hk']; simp only [Bool.and_eq_true, decide_eq_true_eq]; omega) ?_
   rw [hk']
   refine Stp.idx (Xr (show k < b.length by omega)) ?_
   refine Stp.idx (Xr (show k < b.length by omega)) ?_
   refine Stp.idx (Xr (show k < (b.set _ _).length by rw [List.length_set]; omega)) ?_
   have hb' : ∀ x y, (b.set x y).length = 64 := fun x y => by rw [List.length_set]; exact hb
   have tail : Stp (Qge l) (fun s' => (∃ i : Nat, s'.1 = (i : Int) ∧ i ≤ l.length ∧ s'.2.1.length = 64 ∧ s'.2.2.length ≤ i * 268600000) ∧ l.length - s'.1.toNat < l.length - (i : Int).toNat) (fun _ => True)
     (fun N n => cond (Nat.ble ((o.length + 1 + 4096) * 1) 17592186044416) ((Xs N r.shape y).bind fun v130 =>
      cond (Nat.beq v130.length 0)
      (Qr N 3 l n (IntKind.wrap .i64 ((i : Int) + 1)) (b.set (Int.toNat (k : Int)) (IntKind.wrap .i64 (b[k] + 1))) (o ++ [(IntKind.wrap .u8 (k : Int))]))
      (cond (Nat.ble (((o.length + 1) + v130.length + 4096) * 1) 17592186044416) (Qr N 3 l n (IntKind.wrap .i64 ((i : Int) + 1)) (b.set (Int.toNat (k : Int)) (IntKind.wrap .i64 (b[k] + 1))) ((o ++ [(IntKind.wrap .u8 (k : Int))]) ++ (v130.map fun b => (b.toNat : Int)))) none)) none) := by
    refine Stp.chk (by rw [Nat.ble_eq]; omega) ?_
    refine Stp.bind (Qem _ _) (fun v hv => ?_)
    refine Stp.cond (fun _ => go _ _ (hb' _ _) (by simp only [List.length_append, List.length_cons, List.length_nil]; omega)) (fun _ => ?_)
    refine Stp.chk (by rw [Nat.ble_eq]; omega) ?_
    exact go _ _ (hb' _ _) (by simp only [List.length_append, List.length_cons, List.length_nil, List.length_map]; omega)
   refine Stp.cond (fun _ => ?_) (fun _ => tail)
   refine Stp.bind (Qee _) (fun v _ => ?_)
   exact Stp.cond (fun _ => Stp.ret trivial) (fun _ => tail)
 ·refine Stp.fin ?_
  have vb : TotP (fun N => (Xk N (o.length : Int)).bind fun v169 => cond (Qa .neq v169.2 0) (some (([] : List UInt8), (4 : Int))) (cond (Nat.ble (v169.1.length + (o.map fun n => UInt8.ofNat n.toNat).length) 4611686018427387904) (some ((v169.1 ++ (o.map fun n => UInt8.ofNat n.toNat)), 0)) none)) (fun _ => True) := by
   refine TotP.bind (Q5o _) (fun v hv => ?_)
   refine TotP.cond (fun _ => .ret trivial) (fun _ => ?_)
   exact TotP.chk (by rw [Nat.ble_eq, List.length_map]; omega) (.ret trivial)
  refine TotP.idx (Xr (show 22 < b.length by omega)) ?_
  refine TotP.cond (fun _ => ?_) (fun _ => vb)
  refine TotP.idx (Xr (show 21 < b.length by omega)) ?_
  exact TotP.cond (fun _ => .ret trivial) (fun _ => vb)
theorem Qeh (l : List Qw) (hl : l.length ≤ 30) (hp : ∀ p ∈ l, p.Text.length ≤ maxLen) : Any (fun N => Qb N 3 l) := by
 refine TotP.bind (V := fun _ => True) ?_ (fun _ _ => .ret trivial)
 refine TotP.cond (fun _ => .ret trivial) (fun _ => ?_)
 exact Qdb l hl hp _ rfl
end
end Go.Av
namespace Go.Av
noncomputable section
theorem Q4s (l : List Qw) (hb : l.length ≤ maxLen) : TotP (fun N => Qi N l) (fun v => v = true → l.length ≤ 30 ∧ ∀ p ∈ l, p.Text.length ≤ 300 ∧ p.Value.length ≤ 300) := by
 have hm := Q3z
 ·refine Q45 (L := fun N n s => Qu N l n s) l.length (fun i => ∀ j (h : j < l.length), j < i → (l[j]).Text.length ≤ 300 ∧ (l[j]).Value.length ≤ 300) (fun i hi hj => ?_) (fun hj => ?_) (fun j _ hj => by omega)
  ·show Stp _ _ _ (fun N n => cond (Qa .lss (i : Int) ((Q7 Qw.cells l).length : Int)) _ _)
   rw [Qo, Yz]
   refine Stp.cond (fun _ => ?_) (fun h => by have := of_decide_eq_false h; omega)
   refine Stp.idx (Xr hi) ?_
   rw [Q1a]
   refine Stp.cond (fun _ => Stp.ret (fun h => nomatch h)) (fun h1 => ?_)
   refine Stp.idx (Xr hi) ?_
   rw [Q1a]
   refine Stp.cond (fun _ => Stp.ret (fun h => nomatch h)) (fun h2 => ?_)
   have h1 := of_decide_eq_false h1; have h2 := of_decide_eq_false h2
   rw [w64 _ (by omega)]
   refine Stp.go (L := fun N n s => Qu N l n s) _ ⟨by omega, fun j hj' hji => ?_⟩
   by_cases e : j = i
   ·subst e; constructor <;> omega
   ·exact hj j hj' (by omega)
  ·show Stp _ _ _ (fun N n => cond (Qa .lss (l.length : Int) ((Q7 Qw.cells l).length : Int)) _ _)
   rw [Qo, Yz]
   refine Stp.cond (fun h => by have := of_decide_eq_true h; omega) (fun _ => Stp.ret (fun h => ⟨?_, fun p hp => ?_⟩))
   ·rw [Gm] at h; have := of_decide_eq_true h; omega
   ·obtain ⟨j, hj', rfl⟩ := List.getElem_of_mem hp
    exact hj j hj' hj'
theorem Qli (x : Int) : IntKind.wrap .i64 x ≤ 9223372036854775807 := by rw [IntKind.wrap_i64]; omega
theorem Qbt (p : Wl) (h1 : p.Filters.length ≤ maxLen) (h2 : p.Props.length ≤ maxLen) (h3 : p.Will.Props.length ≤ maxLen) : Any (fun N => Yn N p) := by
 have hm := Q3z
 have fin : ∀ b : Bool, Any (fun N => (Qi N p.Props).bind fun v26 => cond v26 ((Qi N p.Will.Props).bind fun v29 => some v29) (some false)) := fun _ =>
  TotP.bind (Q4s _ h2) (fun _ _ => TotP.cond (fun _ => TotP.bind (Q4s _ h3) (fun _ _ => .ret trivial)) (fun _ => .ret trivial))
 have tail : Any (fun N => cond (Qa .leq (p.Topic.length : Int) 2000) (cond (Qa .leq (p.Payload.length : Int) 2000) (cond (Qa .leq (p.Client.length : Int) 2000) (cond (Qa .leq (p.User.length : Int) 2000) (cond (Qa .leq (p.Pass.length : Int) 2000)
  (cond (Qa .leq (p.Will.Topic.length : Int) 2000) (cond (Qa .leq (p.Will.Payload.length : Int) 2000) (cond (Qa .leq ((Q7 (cI .i64) p.Codes).length : Int) 30) (cond (Qa .leq ((Q7 Z2.cells p.Filters).length : Int) 30)
  ((Qi N p.Props).bind fun v26 => cond v26 ((Qi N p.Will.Props).bind fun v29 => some v29) (some false)) (some false)) (some false)) (some false)) (some false)) (some false)) (some false)) (some false)) (some false)) (some false)) := by
  repeat refine TotP.cond (fun _ => ?_) (fun _ => .ret trivial)
  exact fin true
 refine Q45 (L := fun N n s => Qt N p n s) p.Filters.length (fun _ => True) (fun i hi _ => ?_) (fun _ => ?_) trivial
 ·show Stp _ _ _ (fun N n => cond (Qa .lss (i : Int) ((Q7 Z2.cells p.Filters).length : Int)) _ _)
  refine Stp.cond (fun _ => ?_) (fun _ => Stp.fin tail)
  refine Stp.cond (fun _ => ?_) (fun _ => Stp.fin tail)
  refine Stp.idx (Xr hi) ?_
  refine Stp.cond (fun _ => Stp.ret trivial) (fun _ => ?_)
  rw [w64 _ (by omega)]
  exact Stp.go (L := fun N n s => Qt N p n s) _ ⟨by omega, trivial⟩
 ·show Stp _ _ _ (fun N n => cond (Qa .lss (p.Filters.length : Int) ((Q7 Z2.cells p.Filters).length : Int)) _ _)
  refine Stp.cond (fun h => ?_) (fun _ => Stp.fin tail)
  rw [Qo, Yz] at h; have := of_decide_eq_true h; omega
theorem Qg9 (d : Uo) : TotP (fun N => Y3 N d) (fun v => v = true → d.Hops.length ≤ 8 ∧ ∀ h ∈ d.Hops, h.Node.length ≤ 300) := by
 refine TotP.cond (fun _ => .ret (fun h => nomatch h)) (fun h0 => ?_)
 rw [Qo, Q1a] at h0
 have h0 := of_decide_eq_false h0
 refine TotP.bind (V := fun _ => True) (TotP.cond (fun _ => .ret trivial) (fun _ => .ret trivial)) (fun _ _ => ?_)
 refine TotP.cond (fun _ => .ret (fun h => nomatch h)) (fun _ => ?_)
 refine Q45 (L := fun N n s => Qs N d n s) d.Hops.length (fun i => ∀ j (h : j < d.Hops.length), j < i → (d.Hops[j]).Node.length ≤ 300) (fun i hi hj => ?_) (fun hj => ?_) (fun j _ hj => by omega)
 ·show Stp _ _ _ (fun N n => cond (Qa .lss (i : Int) ((Q7 W3.cells d.Hops).length : Int)) _ _)
  rw [Qo, Yz]
  refine Stp.cond (fun _ => ?_) (fun h => by have := of_decide_eq_false h; omega)
  refine Stp.idx (Xr hi) ?_
  rw [Q1a]
  refine Stp.cond (fun _ => Stp.ret (fun h => nomatch h)) (fun h1 => ?_)
  have h1 := of_decide_eq_false h1
  rw [w64 _ (by omega)]
  refine Stp.go (L := fun N n s => Qs N d n s) _ ⟨by omega, fun j hj' hji => ?_⟩
  by_cases e : j = i
  ·subst e; omega
  ·exact hj j hj' (by omega)
 ·show Stp _ _ _ (fun N n => cond (Qa .lss (d.Hops.length : Int) ((Q7 W3.cells d.Hops).length : Int)) _ _)
  rw [Qo, Yz]
  refine Stp.cond (fun h => by have := of_decide_eq_true h; omega) (fun _ => Stp.ret (fun _ => ⟨by omega, fun p hp => ?_⟩))
  obtain ⟨j, hj', rfl⟩ := List.getElem_of_mem hp
  exact hj j hj' hj'
theorem Qdk : ∀ (k : Nat) (v : Q8) (deep most : Int), deep < (k : Int) → -1 ≤ deep → deep ≤ 1000 → most ≤ 9223372036854775807 → Any (fun N => Z3 N v deep most) := by
 intro k
 induction k with
 | zero =>
  intro v deep most h _ _ _
  refine ⟨IntKind.wrap .i64 (most + 1), trivial, 1, fun N hN => ?_⟩
  obtain ⟨M, rfl⟩ : ∃ M, N = M + 1 := ⟨N - 1, by omega⟩
  show cond (Qa .lss deep 0) _ _ = _
  rw [Yz, decide_eq_true (by omega)]; rfl
 | succ k ih =>
  intro v deep most h hd hdm hm
  have body : Any (fun N => Xu (Z3 N) N v deep most) := by
   refine TotP.cond (fun _ => .ret trivial) (fun h1 => ?_)
   refine TotP.cond (fun _ => .ret trivial) (fun h2 => ?_)
   refine TotP.cond (fun _ => .ret trivial) (fun _ => ?_)
   rw [Yz] at h1; rw [Q8.rows_eq, Qo, Q1a] at h2
   have h1 := of_decide_eq_false h1; have h2 := of_decide_eq_false h2
   have := Q6s (L := fun N n (p : Int × Int) => Zj (Z3 N) N v deep most n p.1 p.2) (Q := fun _ => True) (fun p => ∃ i : Nat, p.2 = (i : Int) ∧ i ≤ v.Items.length) (fun p => v.Items.length - p.2.toNat) ?_ (1, 0) ⟨0, rfl, by omega⟩
   ·exact this
   rintro ⟨q, s⟩ ⟨i, hs, hi⟩
   simp only at hs
   subst hs
   show Stp _ _ _ (fun N n => cond (Qa .lss (i : Int) ((Q8.rows v.Items).length : Int)) _ _)
   rw [Q8.rows_eq, Qo, Yz]
   refine Stp.cond (fun h => ?_) (fun _ => Stp.ret trivial)
   have h := of_decide_eq_true h
   have hi : i < v.Items.length := by omega
   refine Stp.cond (fun _ => ?_) (fun _ => Stp.ret trivial)
   refine Stp.idx (Xr hi) ?_
   rw [w64 (deep - 1) (by omega)]
   refine Stp.bind (f := fun N => Z3 N (v.Items[i]) (deep - 1) (IntKind.wrap .i64 (most - q))) (V := fun _ => True) (ih v.Items[i] (deep - 1) (IntKind.wrap .i64 (most - q)) (by omega) (by omega) (by omega) (Qli (most - q))) (fun w _ => ?_)
   rw [w64 ((i : Int) + 1) (by omega)]
   refine Stp.go (L := fun N n (p : Int × Int) => Zj (Z3 N) N v deep most n p.1 p.2) (_, _) ⟨⟨i + 1, by simp only; omega, by omega⟩, by simp only; omega⟩
  obtain ⟨r, _, N0, hN⟩ := body
  refine ⟨r, trivial, N0 + 1, fun N h => ?_⟩
  obtain ⟨M, rfl⟩ : ∃ M, N = M + 1 := ⟨N - 1, by omega⟩
  exact hN M (by omega)
theorem Qdf (f : Vv) : Any (fun N => Yw N f) := by
 refine TotP.cond (fun _ => .ret trivial) (fun h0 => ?_)
 rw [Q8.rows_eq, Qo, Q1a] at h0
 have h0 := of_decide_eq_false h0
 refine TotP.cond (fun _ => .ret trivial) (fun _ => ?_)
 refine Q45 (L := fun N n s => Qv N f n s) f.Values.length (fun _ => True) (fun i hi _ => ?_) (fun _ => ?_) trivial
 ·show Stp _ _ _ (fun N n => cond (Qa .lss (i : Int) ((Q8.rows f.Values).length : Int)) _ _)
  rw [Q8.rows_eq, Qo]
  refine Stp.cond (fun _ => ?_) (fun _ => Stp.ret trivial)
  refine Stp.idx (Xr hi) ?_
  refine Stp.bind (V := fun _ => True) (TotP.bind (Qdk 7 _ 6 40 (by decide) (by decide) (by decide) (by decide)) (fun _ _ => .ret trivial)) (fun _ _ => ?_)
  refine Stp.cond (fun _ => Stp.ret trivial) (fun _ => ?_)
  rw [w64 _ (by omega)]
  exact Stp.go (L := fun N n s => Qv N f n s) _ ⟨by omega, trivial⟩
 ·show Stp _ _ _ (fun N n => cond (Qa .lss (f.Values.length : Int) ((Q8.rows f.Values).length : Int)) _ _)
  rw [Q8.rows_eq, Qo]
  refine Stp.cond (fun h => by rw [Yz] at h; have := of_decide_eq_true h; omega) (fun _ => Stp.ret trivial)
structure OkE (e : Yb) : Prop where
 topic : e.Topic.length ≤ maxLen
 props : e.Props.length ≤ maxLen
 filters : e.Packet.Filters.length ≤ maxLen
 pprops : e.Packet.Props.length ≤ maxLen
 wprops : e.Packet.Will.Props.length ≤ maxLen
structure LightE (e : Yb) : Prop where
 topic : e.Topic.length ≤ 2000
 payload : e.Payload.length ≤ 2000
 props : e.Props.length ≤ 30 ∧ ∀ p ∈ e.Props, p.Text.length ≤ 300 ∧ p.Value.length ≤ 300
 hops : e.Hops.length ≤ 8 ∧ ∀ h ∈ e.Hops, h.Node.length ≤ 300
theorem Q86 (e : Yb) (h : OkE e) : TotP (fun N => Y0 N e) (fun v => v = true → LightE e) := by
 refine TotP.cond (fun h1 => ?_) (fun _ => .ret (fun h => nomatch h))
 refine TotP.cond (fun h2 => ?_) (fun _ => .ret (fun h => nomatch h))
 rw [Gm] at h1 h2
 have h1 := of_decide_eq_true h1; have h2 := of_decide_eq_true h2
 refine TotP.bind (Q4s _ h.props) (fun v hv => ?_)
 refine TotP.cond (fun h3 => ?_) (fun _ => .ret (fun h => nomatch h))
 refine TotP.bind (Qbt _ h.filters h.pprops h.wprops) (fun _ _ => ?_)
 refine TotP.cond (fun _ => ?_) (fun _ => .ret (fun h => nomatch h))
 refine TotP.bind (Qg9 _) (fun w hw => ?_)
 refine TotP.cond (fun h4 => ?_) (fun _ => .ret (fun h => nomatch h))
 refine TotP.bind (Qdf _) (fun _ _ => .ret (fun _ => ⟨by omega, by omega, hv h3, hw h4⟩))
def Lv (o : Option Int) (P : Prop) : Prop := ∃ v, o = some v ∧ (v = 0 → P)
theorem Lv.of {v : Int} {P : Prop} (h : P) : Lv (some v) P := ⟨v, rfl, fun _ => h⟩
theorem Lv.no {v : Int} {P : Prop} (h : v ≠ 0) : Lv (some v) P := ⟨v, rfl, fun e => absurd e h⟩
theorem Lv.cond {b : Bool} {x y : Option Int} {P : Prop} (h1 : Lv x P) (h2 : Lv y P) : Lv (cond b x y) P := by cases b <;> assumption
structure PubE (e : Yb) : Prop where
 proto : e.Proto = 1 ∨ e.Proto = 2 ∨ e.Proto = 3 ∨ e.Proto = 4
 kind : e.Kind = 1
 qos : e.QoS = -1 ∨ e.QoS = 0 ∨ e.QoS = 1 ∨ e.QoS = 2
theorem Qak (N : Nat) (p : Int) : Vg N p = some (decide (p = 1 ∨ p = 2 ∨ p = 3 ∨ p = 4)) := by
 by_cases h : p = 1 ∨ p = 2 ∨ p = 3 ∨ p = 4
 ·rw [decide_eq_true h]; rcases h with rfl | rfl | rfl | rfl <;> rfl
 ·have h0 : Ji Y4 p = none := by
   have h1 : (p == 1) = false := by simp; omega
   have h2 : (p == 2) = false := by simp; omega
   have h3 : (p == 3) = false := by simp; omega
   have h4 : (p == 4) = false := by simp; omega
   unfold Y4
   simp only [Ji, h1, h2, h3, h4, cond_false]
  unfold Vg
  rw [h0, decide_eq_false h]; rfl
theorem Qc0 {N : Nat} {e : Yb} {t b : Bool} {v : Int} (hn : X1 N e.Topic = some (Qf8 e.Topic)) (ht : Z0 N e = some t) (hb : Qc N e = some b) (hv : Qb N 3 e.Props = some v) :
  Lv (Yq N e) (PubE e) := by
 have key : ∀ c : Bool, Lv (Y1 N e c) (PubE e) := by
  intro c
  simp only [Y1, Qak, hn, ht, hb, hv, Q7b, Option.bind_some]
  by_cases h1 : e.Proto = 1 ∨ e.Proto = 2 ∨ e.Proto = 3 ∨ e.Proto = 4
  ·by_cases h2 : e.Kind = 1
   ·by_cases h3 : e.QoS = -1 ∨ e.QoS = 0 ∨ e.QoS = 1 ∨ e.QoS = 2
    ·have hP : PubE e := ⟨h1, h2, h3⟩
     repeat' first | exact Lv.of hP | refine Lv.cond ?_ ?_
    ·have w : (decide (0 ≤ e.QoS) && decide (e.QoS ≤ 2)) = false := by
      rw [show (decide (0 ≤ e.QoS) && decide (e.QoS ≤ 2)) = decide (0 ≤ e.QoS ∧ e.QoS ≤ 2) by simp]; exact decide_eq_false (by omega)
     have m : Qa .eql e.QoS (-1) = false := by rw [Gh]; exact decide_eq_false (by omega)
     simp only [w, m, Bool.not_false, cond_true]
     repeat' first | exact Lv.no (by decide) | refine Lv.cond ?_ ?_
   ·have w : Qa .neq e.Kind 1 = true := by rw [G9]; exact decide_eq_true h2
    simp only [w, cond_true]
    repeat' first | exact Lv.no (by decide) | refine Lv.cond ?_ ?_
  ·rw [decide_eq_false h1]
   exact Lv.no (by decide)
 unfold Yq
 exact Lv.cond (key _) (key _)
theorem Q4q (e : Yb) (h : LightE e) : TotP (fun N => Yq N e) (fun v => v = 0 → PubE e) := by
 have hml : 2000 ≤ maxLen := by unfold maxLen; decide
 have ht : e.Topic.length ≤ maxLen := by have := h.topic; omega
 obtain ⟨a, ha⟩ := Q75 e.Topic ht
 obtain ⟨t, _, b, hb⟩ := Qed e h.hops.1 h.hops.2 ht
 obtain ⟨w, _, c, hc⟩ := Qf4 e
 obtain ⟨v, _, d, hd⟩ := Qeh e.Props h.props.1 (fun p hp => by have := (h.props.2 p hp).1; omega)
 obtain ⟨r, hr, hP⟩ := Qc0 (e := e) (ha (a + b + c + d) (by omega)) (hb (a + b + c + d) (by omega)) (hc (a + b + c + d) (by omega)) (hd (a + b + c + d) (by omega))
 refine ⟨r, hP, a + b + c + d, fun N hN => ?_⟩
 rw [← hr]
 have e1 := ha N (by omega); have e2 := hb N (by omega); have e3 := hc N (by omega); have e4 := hd N (by omega)
 have g1 := ha (a + b + c + d) (by omega); have g2 := hb (a + b + c + d) (by omega); have g3 := hc (a + b + c + d) (by omega); have g4 := hd (a + b + c + d) (by omega)
 simp only at e1 e2 e3 e4 g1 g2 g3 g4
 simp only [Yq, Y1, Qak, e1, e2, e3, e4, g1, g2, g3, g4, Q7b, Option.bind_some]
end
end Go.Av
namespace Go.Av
noncomputable section
theorem Qd4 (M : Nat) (i : Int) : Zi (M + 1) i = Zi 1 i := rfl
def Ql5 (n : Nat) (l : List UInt8) : Bool := !l.isEmpty && decide (l.length ≤ 4) && l.all (fun b => decide (48 ≤ b.toNat) && decide (b.toNat ≤ 57)) && (l.foldl (fun a b => a * 10 + (b.toNat - 48)) 0 == n)
theorem Qfk : (List.range 2001).all (fun n => match Zi 1 (n : Int) with | some l => Ql5 n l | none => false) = true := by decide +kernel
end
end Go.Av
namespace Go.Av
noncomputable section
theorem Qb3 (x y : List UInt8) : Q0n .eql x y = decide (x = y) := by
 show (x == y) = _
 by_cases h : x = y
 ·rw [h]; simp
 ·rw [decide_eq_false h]; exact beq_eq_false_iff_ne.2 h
theorem Qit {n : Nat} {l : List UInt8} (h : Ql5 n l = true) : l ≠ [] ∧ l.length ≤ 4 ∧ (∀ b ∈ l, 48 ≤ b.toNat ∧ b.toNat ≤ 57) ∧ l.foldl (fun a b => a * 10 + (b.toNat - 48)) 0 = n := by
 unfold Ql5 at h
 simp only [Bool.and_eq_true, List.all_eq_true, decide_eq_true_eq, beq_iff_eq, Bool.not_eq_true', List.isEmpty_eq_false_iff] at h
 exact ⟨h.1.1.1, h.1.1.2, h.1.2, h.2⟩
theorem Qgl (n : Nat) (h : n ≤ 2000) : ∃ l, Tot (fun N => Zi N (n : Int)) l ∧ l ≠ [] ∧ l.length ≤ 4 ∧ (∀ b ∈ l, 48 ≤ b.toNat ∧ b.toNat ≤ 57) ∧ l.foldl (fun a b => a * 10 + (b.toNat - 48)) 0 = n := by
 have := List.all_eq_true.1 Qfk n (List.mem_range.2 (by omega))
 cases hI : Zi 1 (n : Int) with
 | none => rw [hI] at this; cases this
 | some l =>
  rw [hI] at this
  refine ⟨l, ⟨1, fun N hN => ?_⟩, Qit this⟩
  obtain ⟨M, rfl⟩ : ∃ M, N = M + 1 := ⟨N - 1, by omega⟩
  exact (Qd4 M n).trans hI
def Qcs (q : Int) : List UInt8 := if q = -1 then [45, 49] else if q = 0 then [48] else if q = 1 then [49] else [50]
theorem Qjl {q : Int} (h : q = -1 ∨ q = 0 ∨ q = 1 ∨ q = 2) : Tot (fun N => Zi N q) (Qcs q) := ⟨1, fun N hN => by
 obtain ⟨M, rfl⟩ : ∃ M, N = M + 1 := ⟨N - 1, by omega⟩
 rcases h with rfl | rfl | rfl | rfl <;> rfl⟩
def Qch (p : Int) : List UInt8 := if p = 1 then [109, 113, 116, 116, 51] else if p = 2 then [109, 113, 116, 116, 53] else if p = 3 then [115, 110] else [97, 109, 113, 112]
theorem Qia (p : Int) : (Qch p).length ≤ 5 := by
 unfold Qch
 repeat' split
 all_goals decide
theorem Qig (q : Int) : (Qcs q).length ≤ 2 := by
 unfold Qcs
 repeat' split
 all_goals decide
theorem Qfa {p : Int} (h : p = 1 ∨ p = 2 ∨ p = 3 ∨ p = 4) : Ji Y4 p = some ⟨Qch p⟩ := by rcases h with rfl | rfl | rfl | rfl <;> rfl
def Q7i (l q t n : List UInt8) (r : Bool) : List UInt8 := ((((((l ++ [32, 112, 117, 98, 108, 105, 115, 104, 32, 113]) ++ q) ++ [32]) ++ t) ++ [32]) ++ n) ++ (if r then [32, 114, 101, 116, 97, 105, 110] else [])
theorem Qe3 (e : Yb) (hp : PubE e) (hl : LightE e) {n : List UInt8} (hn : Tot (fun N => Zi N (e.Payload.length : Int)) n) (hnl : n.length ≤ 5000) : Tot (fun N => Zt N e) (Q7i (Qch e.Proto) (Qcs e.QoS) e.Topic n e.Retain) := by
 refine TotP.tot ?_
 have l1 := Qia e.Proto
 have l2 := Qig e.QoS
 have l3 := hl.topic
 show TotP (fun N => optC (Ji Y4 e.Proto) _ _) _
 rw [Qfa hp.proto]
 show TotP (fun N => cond (Qa .neq e.Kind 1) _ (cond (Nat.ble ((Qch e.Proto).length + _) _) _ none)) _
 refine TotP.cond (fun h => ?_) (fun _ => ?_)
 ·rw [hp.kind] at h; cases h
 refine TotP.chk (by rw [Nat.ble_eq]; simp only [List.length_append, List.length_cons, List.length_nil]; omega) ?_
 refine TotP.bindE (Qjl hp.qos) ?_
 refine TotP.chk (by rw [Nat.ble_eq]; simp only [List.length_append, List.length_cons, List.length_nil]; omega) ?_
 refine TotP.chk (by rw [Nat.ble_eq]; simp only [List.length_append, List.length_cons, List.length_nil]; omega) ?_
 refine TotP.chk (by rw [Nat.ble_eq]; simp only [List.length_append, List.length_cons, List.length_nil]; omega) ?_
 refine TotP.chk (by rw [Nat.ble_eq]; simp only [List.length_append, List.length_cons, List.length_nil]; omega) ?_
 refine TotP.bindE hn ?_
 refine TotP.chk (by rw [Nat.ble_eq]; simp only [List.length_append, List.length_cons, List.length_nil]; omega) ?_
 refine TotP.cond (fun h => ?_) (fun h => ?_)
 ·refine TotP.chk (by rw [Nat.ble_eq]; simp only [List.length_append, List.length_cons, List.length_nil]; omega) (.ret ?_)
  unfold Q7i; rw [h]; rfl
 ·refine .ret ?_
  unfold Q7i; rw [h]; simp
theorem Qkz {c : UInt8} : ∀ {x y u v : List UInt8}, x ++ c :: u = y ++ c :: v → c ∉ x → c ∉ y → x = y ∧ u = v
 | [], [], u, v, h, _, _ => ⟨rfl, by simpa using h⟩
 | [], b :: y, u, v, h, _, hy => by simp at h; exact absurd (List.mem_cons.2 (.inl h.1)) hy
 | a :: x, [], u, v, h, hx, _ => by simp at h; exact absurd (List.mem_cons.2 (.inl h.1.symm)) hx
 | a :: x, b :: y, u, v, h, hx, hy => by
  simp only [List.cons_append, List.cons.injEq] at h
  obtain ⟨e, f⟩ := Qkz h.2 (fun m => hx (List.mem_cons_of_mem _ m)) (fun m => hy (List.mem_cons_of_mem _ m))
  exact ⟨by rw [h.1, e], f⟩
theorem Qo3 {c : UInt8} {x y u v : List UInt8} (h : x ++ c :: u = y ++ c :: v) (hu : c ∉ u) (hv : c ∉ v) : x = y ∧ u = v := by
 have h' := congrArg List.reverse h
 simp only [List.reverse_append, List.reverse_cons, List.append_assoc, List.singleton_append] at h'
 obtain ⟨a, b⟩ := Qkz h' (by simpa using hu) (by simpa using hv)
 exact ⟨List.reverse_inj.1 b, List.reverse_inj.1 a⟩
theorem Qgs (p : Int) : (32 : UInt8) ∉ Qch p := by
 unfold Qch
 repeat' split
 all_goals decide
theorem Qh2 (q : Int) : (32 : UInt8) ∉ Qcs q := by
 unfold Qcs
 repeat' split
 all_goals decide
theorem Qir {p p' : Int} (h : p = 1 ∨ p = 2 ∨ p = 3 ∨ p = 4) (h' : p' = 1 ∨ p' = 2 ∨ p' = 3 ∨ p' = 4) (e : Qch p = Qch p') : p = p' := by
 rcases h with rfl | rfl | rfl | rfl <;> rcases h' with rfl | rfl | rfl | rfl <;> first | rfl | exact absurd e (by decide)
theorem Qhx {p p' : Int} (h : p = -1 ∨ p = 0 ∨ p = 1 ∨ p = 2) (h' : p' = -1 ∨ p' = 0 ∨ p' = 1 ∨ p' = 2) (e : Qcs p = Qcs p') : p = p' := by
 rcases h with rfl | rfl | rfl | rfl <;> rcases h' with rfl | rfl | rfl | rfl <;> first | rfl | exact absurd e (by decide)
theorem Qh3 {n : List UInt8} (h : ∀ b ∈ n, 48 ≤ b.toNat ∧ b.toNat ≤ 57) : (32 : UInt8) ∉ n := fun m => by have := (h _ m).1; revert this; decide
theorem Qd9 {n m t t' : List UInt8} (hn : n ≠ []) (h : ∀ b ∈ n, 48 ≤ b.toNat ∧ b.toNat ≤ 57) : t ++ n ≠ t' ++ [32, 114, 101, 116, 97, 105, 110] := by
 intro e
 have := congrArg List.reverse e
 obtain ⟨x, l, hx⟩ : ∃ x l, n.reverse = x :: l := by
  cases hr : n.reverse with
  | nil => exact absurd (List.reverse_eq_nil_iff.1 hr) hn
  | cons x l => exact ⟨x, l, rfl⟩
 simp only [List.reverse_append, hx] at this
 have hx' : x ∈ n := List.mem_reverse.1 (by rw [hx]; exact List.mem_cons_self)
 have e0 : x = 110 := by simpa using congrArg List.head? this
 have := (h _ hx').2
 rw [e0] at this; revert this; decide
theorem Qfn {p p' q q' : Int} {t t' n n' : List UInt8} {r r' : Bool} (hp : p = 1 ∨ p = 2 ∨ p = 3 ∨ p = 4) (hp' : p' = 1 ∨ p' = 2 ∨ p' = 3 ∨ p' = 4) (hq : q = -1 ∨ q = 0 ∨ q = 1 ∨ q = 2) (hq' : q' = -1 ∨ q' = 0 ∨ q' = 1 ∨ q' = 2)
  (hn : n ≠ []) (hn' : n' ≠ []) (d : ∀ b ∈ n, 48 ≤ b.toNat ∧ b.toNat ≤ 57) (d' : ∀ b ∈ n', 48 ≤ b.toNat ∧ b.toNat ≤ 57) (e : Q7i (Qch p) (Qcs q) t n r = Q7i (Qch p') (Qcs q') t' n' r') :
  p = p' ∧ q = q' ∧ t = t' ∧ n = n' ∧ r = r' := by
 unfold Q7i at e
 simp only [List.append_assoc, List.cons_append, List.nil_append] at e
 obtain ⟨e1, e2⟩ := Qkz e (Qgs p) (Qgs p')
 simp only [List.cons.injEq, true_and] at e2
 obtain ⟨e3, e4⟩ := Qkz e2 (Qh2 q) (Qh2 q')
 have hr : r = r' ∧ t ++ 32 :: n = t' ++ 32 :: n' := by
  cases r <;> cases r'
  ·exact ⟨rfl, by simpa using e4⟩
  ·refine absurd (?_ : (t ++ [32]) ++ n = (t' ++ 32 :: n') ++ [32, 114, 101, 116, 97, 105, 110]) (Qd9 (m := []) hn d)
   simpa using e4
  ·refine absurd (?_ : (t' ++ [32]) ++ n' = (t ++ 32 :: n) ++ [32, 114, 101, 116, 97, 105, 110]) (Qd9 (m := []) hn' d')
   simpa using e4.symm
  ·refine ⟨rfl, List.append_cancel_right (bs := [32, 114, 101, 116, 97, 105, 110]) ?_⟩
   simpa using e4
 obtain ⟨e5, e6⟩ := Qo3 hr.2 (Qh3 d) (Qh3 d')
 exact ⟨Qir hp hp' e1, Qhx hq hq' e3, e5, e6, hr.1⟩
theorem Qix (a b : Yb) (ha : OkE a) (hb : OkE b) : ∃ N, Ya N a b = some true := by
 have h : TotP (fun N => Ya N a b) (· = true) := by
  refine TotP.bind (Q86 a ha) (fun v1 h1 => ?_)
  refine TotP.cond (fun _ => .ret rfl) (fun c1 => ?_)
  refine TotP.bind (Q86 b hb) (fun v2 h2 => ?_)
  refine TotP.cond (fun _ => .ret rfl) (fun c2 => ?_)
  have la := h1 (by simpa using c1); have lb := h2 (by simpa using c2)
  refine TotP.bind (Q4q a la) (fun v3 h3 => ?_)
  rw [G9]
  refine TotP.cond (fun _ => .ret rfl) (fun c3 => ?_)
  refine TotP.bind (Q4q b lb) (fun v4 h4 => ?_)
  rw [G9]
  refine TotP.cond (fun _ => .ret rfl) (fun c4 => ?_)
  have pa := h3 (by have := of_decide_eq_false c3; omega); have pb := h4 (by have := of_decide_eq_false c4; omega)
  obtain ⟨n, hn, n0, n4, nd, nf⟩ := Qgl a.Payload.length la.payload
  obtain ⟨m, hm, m0, m4, md, mf⟩ := Qgl b.Payload.length lb.payload
  have ta := Qe3 a pa la hn (by omega)
  have tb := Qe3 b pb lb hm (by omega)
  have inj := fun e => Qfn (t := a.Topic) (t' := b.Topic) (r := a.Retain) (r' := b.Retain) pa.proto pb.proto pa.qos pb.qos n0 m0 nd md e
  have fin : ∀ x : Bool, decide (Q7i (Qch a.Proto) (Qcs a.QoS) a.Topic n a.Retain = Q7i (Qch b.Proto) (Qcs b.QoS) b.Topic m b.Retain) = x →
    TotP (fun N => (Zt N a).bind fun v => (Zt N b).bind fun w => some ((Q0n .eql v w) == x)) (· = true) := by
   intro x hx
   refine TotP.bindE ta (TotP.bindE tb (.ret ?_))
   rw [Qb3, hx]; simp
  rw [Gh, Gh, Gh, Qb3]
  refine TotP.cond (fun e1 => ?_) (fun e1 => fin false (decide_eq_false fun e => of_decide_eq_false e1 (inj e).1))
  refine TotP.cond (fun e2 => ?_) (fun e2 => fin false (decide_eq_false fun e => of_decide_eq_false e2 (inj e).2.2.1))
  refine TotP.cond (fun e3 => ?_) (fun e3 => fin false (decide_eq_false fun e => of_decide_eq_false e3 (inj e).2.1))
  refine TotP.cond (fun e4 => fin _ ?_) (fun e4 => fin false (decide_eq_false fun e => by rw [(inj e).2.2.2.2] at e4; simp at e4))
  have e1 := of_decide_eq_true e1; have e2 := of_decide_eq_true e2; have e3 := of_decide_eq_true e3; have e4 := eq_of_beq e4
  by_cases hl : a.Payload.length = b.Payload.length
  ·have : n = m := by
    rw [hl] at hn
    obtain ⟨x, hx⟩ := hn
    obtain ⟨y, hy⟩ := hm
    exact Option.some.inj ((hx (x + y) (by omega)).symm.trans (hy (x + y) (by omega)))
   rw [decide_eq_true (by rw [e1, e2, e3, e4, this]), decide_eq_true (by omega)]
  ·rw [decide_eq_false (fun e => hl (by rw [← nf, ← mf, (inj e).2.2.2.1])), decide_eq_false (by omega)]
 obtain ⟨N, hN⟩ := h.tot
 exact ⟨N, hN N (Nat.le_refl _)⟩
end
end Go.Av
namespace Go.Av
noncomputable section
theorem Qnq {e : Yb} (h : Q6n e) : OkE e := ⟨h.Topic_ok, h.Props_ok.1, h.Packet_ok.Filters_ok.1, h.Packet_ok.Props_ok.1, h.Packet_ok.Will_ok.Props_ok.1⟩
end
end Go.Av
