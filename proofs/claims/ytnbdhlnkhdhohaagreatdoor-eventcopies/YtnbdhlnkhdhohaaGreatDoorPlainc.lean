/- Part of the proof of EventCopies: for every input the law returns true; no condition. -/
import Derived.Test.YtnbdhlnkhdhohaaGreatDoorAvOwn
import Derived.Test.YtnbdhlnkhdhohaaGreatDoorRound
import Derived.Test.YtnbdhlnkhdhohaaGreatDoorLiftF4
import Derived.Test.YtnbdhlnkhdhohaaGreatDoorPlainb
import Derived.Lib.ItoaLen
open Go.IntKind (wrap)
namespace Go.Av
noncomputable section
section
variable {R A S T : Type}
def Tot (f : Nat → Option R) (r : R) : Prop := ∃ N0, ∀ N, N0 ≤ N → f N = some r
def TotP (f : Nat → Option R) (Q : R → Prop) : Prop := ∃ r, Q r ∧ Tot f r
theorem Tot.of {f : Nat → Option R} {r : R} (h : ∀ N, f N = some r) : Tot f r := ⟨0, fun N _ => h N⟩
theorem Tot.ret (r : R) : Tot (fun _ => some r) r := .of fun _ => rfl
theorem Tot.bind {f : Nat → Option A} {g : Nat → A → Option R} {v : A} {r : R} (h1 : Tot f v) (h2 : Tot (fun N => g N v) r) : Tot (fun N => (f N).bind (g N)) r := by
 obtain ⟨a, ha⟩ := h1;obtain ⟨b, hb⟩ := h2;exact ⟨max a b, fun N hN => by show (f N).bind (g N) = _; rw [ha N (by omega)]; exact hb N (by omega)⟩
theorem TotP.of {f : Nat → Option R} {r : R} {Q : R → Prop} (hq : Q r) (h : Tot f r) : TotP f Q := ⟨r, hq, h⟩
theorem TotP.ret {r : R} {Q : R → Prop} (h : Q r) : TotP (fun _ => some r) Q := ⟨r, h, .ret r⟩
theorem TotP.mono {f : Nat → Option R} {Q Q' : R → Prop} (h : TotP f Q) (hq : ∀ r, Q r → Q' r) : TotP f Q' := by
 obtain ⟨r, h1, h2⟩ := h; exact ⟨r, hq r h1, h2⟩
theorem TotP.tot {f : Nat → Option R} {r : R} (h : TotP f (· = r)) : Tot f r := by obtain ⟨x, rfl, h2⟩ := h; exact h2
theorem TotP.bind {f : Nat → Option A} {g : Nat → A → Option R} {V : A → Prop} {Q : R → Prop} (h1 : TotP f V) (h2 : ∀ v, V v → TotP (fun N => g N v) Q) : TotP (fun N => (f N).bind (g N)) Q := by
 obtain ⟨v, hv, t⟩ := h1;obtain ⟨r, hr, u⟩ := h2 v hv;exact ⟨r, hr, t.bind u⟩
theorem TotP.bindE {f : Nat → Option A} {g : Nat → A → Option R} {v : A} {Q : R → Prop} (h1 : Tot f v) (h2 : TotP (fun N => g N v) Q) : TotP (fun N => (f N).bind (g N)) Q := by
 obtain ⟨r, hr, u⟩ := h2;exact ⟨r, hr, h1.bind u⟩
theorem TotP.cond {b : Bool} {f g : Nat → Option R} {Q : R → Prop} (h1 : b = true → TotP f Q) (h2 : b = false → TotP g Q) : TotP (fun N => cond b (f N) (g N)) Q := by
 cases b
 ·exact h2 rfl
 exact h1 rfl
theorem TotP.chk {b : Bool} {f : Nat → Option R} {Q : R → Prop} (hb : b = true) (h : TotP f Q) : TotP (fun N => _root_.cond b (f N) none) Q := by subst hb; exact h
theorem TotP.idx {l : List T} {i : Int} {y : T} {g : Nat → T → Option R} {Q : R → Prop} (h : idx l i = some y) (h2 : TotP (fun N => g N y) Q) : TotP (fun N => (Go.Av.idx l i).bind (g N)) Q :=
 .bindE (.of fun _ => h) h2
theorem TotP.optC {o : Option T} {f : Nat → T → Option R} {z : Nat → Option R} {Q : R → Prop} (h1 : ∀ v, o = some v → TotP (fun N => f N v) Q) (h2 : o = none → TotP z Q) : TotP (fun N => Go.Av.optC o (f N) (z N)) Q := by
 cases o with
 | none => exact h2 rfl
 | some v => exact h1 v rfl
def Stp (L : Nat → Nat → S → Option R) (P : S → Prop) (Q : R → Prop) (f : Nat → Nat → Option R) : Prop :=
 (∃ r N0, Q r ∧ ∀ N n, N0 ≤ N → f N n = some r) ∨ ∃ s N0, P s ∧ ∀ N n, N0 ≤ N → f N n = L N n s
section
variable {L : Nat → Nat → S → Option R} {P : S → Prop} {Q : R → Prop}
theorem Stp.fin {f : Nat → Option R} (h : TotP f Q) : Stp L P Q (fun N _ => f N) := by
 obtain ⟨r, h1, N0, h2⟩ := h; exact .inl ⟨r, N0, h1, fun N _ hN => h2 N hN⟩
theorem Stp.ret {r : R} (h : Q r) : Stp L P Q (fun _ _ => some r) := .inl ⟨r, 0, h, fun _ _ _ => rfl⟩
theorem Stp.go (s : S) (h : P s) : Stp L P Q (fun N n => L N n s) := .inr ⟨s, 0, h, fun _ _ _ => rfl⟩
theorem Stp.bind {f : Nat → Option A} {g : Nat → Nat → A → Option R} {V : A → Prop} (h1 : TotP f V) (h2 : ∀ v, V v → Stp L P Q (fun N n => g N n v)) : Stp L P Q (fun N n => (f N).bind (g N n)) := by
 obtain ⟨v, hv, a, ha⟩ := h1
 rcases h2 v hv with ⟨r, b, hr, hb⟩ | ⟨s, b, hs, hb⟩
 ·exact .inl ⟨r, max a b, hr, fun N n hN => by show (f N).bind _ = _; rw [ha N (by omega)]; exact hb N n (by omega)⟩
 exact .inr ⟨s, max a b, hs, fun N n hN => by show (f N).bind _ = _; rw [ha N (by omega)]; exact hb N n (by omega)⟩
theorem Stp.idx {l : List T} {i : Int} {y : T} {g : Nat → Nat → T → Option R} (h : idx l i = some y) (h2 : Stp L P Q (fun N n => g N n y)) : Stp L P Q (fun N n => (Go.Av.idx l i).bind (g N n)) :=
 .bind (f := fun _ => Go.Av.idx l i) (V := (· = y)) ⟨y, rfl, .of fun _ => h⟩ (fun v hv => by subst hv; exact h2)
theorem Stp.cond {b : Bool} {f g : Nat → Nat → Option R} (h1 : b = true → Stp L P Q f) (h2 : b = false → Stp L P Q g) : Stp L P Q (fun N n => cond b (f N n) (g N n)) := by
 cases b
 ·exact h2 rfl
 exact h1 rfl
theorem Stp.chk {b : Bool} {f : Nat → Nat → Option R} (hb : b = true) (h : Stp L P Q f) : Stp L P Q (fun N n => _root_.cond b (f N n) none) := by subst hb; exact h
theorem Q8y (inv : S → Prop) (μ : S → Nat) (step : ∀ s, inv s → Stp L (fun s' => inv s' ∧ μ s' < μ s) Q (fun N n => L N (n + 1) s)) (s : S) (h : inv s) : TotP (fun N => L N N s) Q := by
 have key : ∀ (m : Nat) (s : S), μ s < m → inv s → ∃ r N0, Q r ∧ ∀ N n, N0 ≤ N → N0 ≤ n → L N n s = some r := by
  intro m
  induction m with
  | zero => intro s h; omega
  | succ m ih =>
   intro s hm hi
   rcases step s hi with ⟨r, N0, hr, hL⟩ | ⟨s', N0, ⟨h1, h2⟩, hL⟩
   ·refine ⟨r, N0 + 1, hr, fun N n h1 h2 => ?_⟩;obtain ⟨k, rfl⟩ : ∃ k, n = k + 1 := ⟨n - 1, by omega⟩;exact hL N k (by omega)
   obtain ⟨r, M0, hr, hM⟩ := ih s' (by omega) h1;refine ⟨r, max N0 M0 + 1, hr, fun N n h1 h2 => ?_⟩;obtain ⟨k, rfl⟩ : ∃ k, n = k + 1 := ⟨n - 1, by omega⟩;exact (hL N k (by omega)).trans (hM N k (by omega) (by omega))
 obtain ⟨r, N0, hr, hL⟩ := key (μ s + 1) s (by omega) h;exact ⟨r, hr, N0, fun N hN => hL N N hN hN⟩
end
theorem Q42 {L : Nat → Nat → Int → Option R} {Q : R → Prop} (m : Nat) (J : Nat → Prop) (step : ∀ i, i < m → J i → Stp L (fun s => s = ((i + 1 : Nat) : Int) ∧ J (i + 1)) Q (fun N n => L N (n + 1) (i : Int)))
  (fin : J m → Stp L (fun _ => False) Q (fun N n => L N (n + 1) (m : Int))) (h0 : J 0) : TotP (fun N => L N N 0) Q := by
 refine Q8y (S := Int) (fun s => ∃ i : Nat, s = (i : Int) ∧ i ≤ m ∧ J i) (fun s => m - s.toNat) ?_ 0 ⟨0, rfl, Mm _, h0⟩
 rintro s ⟨i, rfl, hi, hj⟩
 by_cases h : i < m
 ·rcases step i h hj with ⟨r, N0, hr, hL⟩ | ⟨s', N0, ⟨rfl, h2⟩, hL⟩
  ·exact .inl ⟨r, N0, hr, hL⟩
  exact .inr ⟨_, N0, ⟨⟨i + 1, rfl, h, h2⟩, by simp only [Lt]; omega⟩, hL⟩
 have : i = m := by omega
 subst this
 rcases fin hj with ⟨r, N0, hr, hL⟩ | ⟨s', N0, h2, hL⟩
 ·exact .inl ⟨r, N0, hr, hL⟩
 exact h2.elim
end
theorem Ql (x y : Int) : Q3 .lss x y = decide (x < y) := rfl
theorem Q2o (x y : Int) : Q3 .leq x y = decide (x ≤ y) := rfl
theorem Q6g (x y : Int) : Q3 .gtr x y = decide (x > y) := rfl
theorem Q5o (x y : Int) : Q3 .geq x y = decide (x ≥ y) := rfl
theorem Q8q (x y : Int) : Q3 .eql x y = decide (x = y) := by unfold Q3; by_cases h : x = y <;> simp [h]
theorem Q6n (x y : Int) : Q3 .neq x y = decide (x ≠ y) := by unfold Q3; by_cases h : x = y <;> simp [h]
theorem w64 (x : Int) (h : -9223372036854775808 ≤ x ∧ x ≤ 9223372036854775807) : wrap .i64 x = x := IntWalk.i64_in x h
theorem Qp {T : Type} {l : List T} {i : Nat} (h : i < l.length) : idx l (i : Int) = some l[i] := Ld h
theorem Qby : maxLen ≤ 9223372036854775807 := by unfold maxLen; decide
end
end Go.Av
namespace Go.Av
noncomputable section
def at8 (s : List UInt8) (i : Nat) : Nat := (s.getD i 0).toNat
theorem Qq4 (s : List UInt8) (i : Nat) : at8 s i < 256 := UInt8.toNat_lt _
theorem Qgj {s : List UInt8} {i : Nat} (h : i < s.length) : at8 s i = (s[i]).toNat := by simp [at8, h]
def goes (s : List UInt8) (i : Nat) : Prop := i < s.length ∧ 128 ≤ at8 s i ∧ at8 s i < 192
instance (s : List UInt8) (i : Nat) : Decidable (goes s i) := inferInstanceAs (Decidable (_ ∧ _))
def Qje (c : Nat) : Prop := ¬ (55296 ≤ c ∧ c ≤ 57343) ∧ c ≤ 1114111
instance (c : Nat) : Decidable (Qje c) := inferInstanceAs (Decidable (_ ∧ _))
def Qem (s : List UInt8) (i : Nat) : Nat × Nat :=
 if at8 s i < 128 then (at8 s i, 1)
 else if 192 ≤ at8 s i ∧ at8 s i < 224 ∧ goes s (i + 1) ∧ 128 ≤ 64 * (at8 s i - 192) + (at8 s (i + 1) - 128) then (64 * (at8 s i - 192) + (at8 s (i + 1) - 128), 2)
 else if 224 ≤ at8 s i ∧ at8 s i < 240 ∧ goes s (i + 1) ∧ goes s (i + 2) ∧ 2048 ≤ 64 * (64 * (at8 s i - 224) + (at8 s (i + 1) - 128)) + (at8 s (i + 2) - 128) ∧ Qje (64 * (64 * (at8 s i - 224) + (at8 s (i + 1) - 128)) + (at8 s (i + 2) - 128)) then
  (64 * (64 * (at8 s i - 224) + (at8 s (i + 1) - 128)) + (at8 s (i + 2) - 128), 3)
 else if 240 ≤ at8 s i ∧ at8 s i < 248 ∧ goes s (i + 1) ∧ goes s (i + 2) ∧ goes s (i + 3) ∧ 65536 ≤ 64 * (64 * (64 * (at8 s i - 240) + (at8 s (i + 1) - 128)) + (at8 s (i + 2) - 128)) + (at8 s (i + 3) - 128) ∧
   Qje (64 * (64 * (64 * (at8 s i - 240) + (at8 s (i + 1) - 128)) + (at8 s (i + 2) - 128)) + (at8 s (i + 3) - 128)) then
  (64 * (64 * (64 * (at8 s i - 240) + (at8 s (i + 1) - 128)) + (at8 s (i + 2) - 128)) + (at8 s (i + 3) - 128), 4)
 else (65533, 1)
theorem Qkc (c : Nat) : Utf8.valid (c : Int) = true ↔ Qje c := by
 unfold Utf8.valid Qje;simp only [La, Nd, Nt, decide_eq_true_eq, decide_eq_false_iff_not];omega
theorem Qvm (a b c d : Nat) (G1 G2 G3 : Prop) [Decidable G1] [Decidable G2] [Decidable G3] (h0 : a < 256) (q1 : G1 → 128 ≤ b ∧ b < 192) (q2 : G2 → 128 ≤ c ∧ c < 192) (q3 : G3 → 128 ≤ d ∧ d < 192) :
  (if a < 128 then (a, 1)
   else if (a / 32 == 6 && decide G1) = true then (if a % 32 * 64 + b % 64 ≥ 128 then (a % 32 * 64 + b % 64, 2) else (65533, 1))
   else if (a / 16 == 14 && decide G1 && decide G2) = true then (if (decide (a % 16 * 4096 + b % 64 * 64 + c % 64 ≥ 2048) && Utf8.valid ((a % 16 * 4096 + b % 64 * 64 + c % 64 : Nat) : Int)) = true then (a % 16 * 4096 + b % 64 * 64 + c % 64, 3) else (65533, 1))
   else if (a / 8 == 30 && decide G1 && decide G2 && decide G3) = true then (if (decide (a % 8 * 262144 + b % 64 * 4096 + c % 64 * 64 + d % 64 ≥ 65536) && Utf8.valid ((a % 8 * 262144 + b % 64 * 4096 + c % 64 * 64 + d % 64 : Nat) : Int)) = true then (a % 8 * 262144 + b % 64 * 4096 + c % 64 * 64 + d % 64, 4) else (65533, 1))
   else (65533, 1)) =
  (if a < 128 then (a, 1)
   else if 192 ≤ a ∧ a < 224 ∧ G1 ∧ 128 ≤ 64 * (a - 192) + (b - 128) then (64 * (a - 192) + (b - 128), 2)
   else if 224 ≤ a ∧ a < 240 ∧ G1 ∧ G2 ∧ 2048 ≤ 64 * (64 * (a - 224) + (b - 128)) + (c - 128) ∧ Qje (64 * (64 * (a - 224) + (b - 128)) + (c - 128)) then (64 * (64 * (a - 224) + (b - 128)) + (c - 128), 3)
   else if 240 ≤ a ∧ a < 248 ∧ G1 ∧ G2 ∧ G3 ∧ 65536 ≤ 64 * (64 * (64 * (a - 240) + (b - 128)) + (c - 128)) + (d - 128) ∧ Qje (64 * (64 * (64 * (a - 240) + (b - 128)) + (c - 128)) + (d - 128)) then
    (64 * (64 * (64 * (a - 240) + (b - 128)) + (c - 128)) + (d - 128), 4)
   else (65533, 1)) := by
 simp only [La, decide_eq_true_eq, beq_iff_eq, Qkc, ge_iff_le];have e2 : ∀ x, Qje x = (¬ (55296 ≤ x ∧ x ≤ 57343) ∧ x ≤ 1114111) := fun x => rfl
 by_cases c1 : a < 128
 ·rw [if_pos c1, if_pos c1]
 rw [if_neg c1, if_neg c1]
 by_cases c2 : a < 192
 ·rw [if_neg (by omega), if_neg (by omega), if_neg (by omega), if_neg (by omega), if_neg (by omega), if_neg (by omega)]
 by_cases c3 : a < 224
 ·by_cases g1 : G1
  ·have := q1 g1
   have e : a % 32 * 64 + b % 64 = 64 * (a - 192) + (b - 128) := by omega
   rw [if_pos ⟨by omega, g1⟩, e]
   by_cases c4 : 128 ≤ 64 * (a - 192) + (b - 128)
   ·rw [if_pos c4, if_pos ⟨by omega, c3, g1, c4⟩]
   rw [if_neg c4, if_neg (fun h => c4 h.2.2.2), if_neg (by omega), if_neg (by omega)]
  rw [if_neg (fun h => g1 h.2), if_neg (by omega), if_neg (by omega), if_neg (fun h => g1 h.2.2.1), if_neg (by omega), if_neg (by omega)]
 rw [if_neg (by omega), if_neg (c := 192 ≤ a ∧ _) (by omega)]
 by_cases c5 : a < 240
 ·by_cases g : G1 ∧ G2
  ·have := q1 g.1;have := q2 g.2
   have e : a % 16 * 4096 + b % 64 * 64 + c % 64 = 64 * (64 * (a - 224) + (b - 128)) + (c - 128) := by omega
   rw [if_pos ⟨⟨by omega, g.1⟩, g.2⟩, e]
   by_cases c4 : 2048 ≤ 64 * (64 * (a - 224) + (b - 128)) + (c - 128) ∧ Qje (64 * (64 * (a - 224) + (b - 128)) + (c - 128))
   ·rw [if_pos c4, if_pos ⟨by omega, c5, g.1, g.2, c4⟩]
   rw [if_neg c4, if_neg (fun h => c4 h.2.2.2.2), if_neg (by omega)]
  rw [if_neg (fun h => g ⟨h.1.2, h.2⟩), if_neg (by omega), if_neg (fun h => g ⟨h.2.2.1, h.2.2.2.1⟩), if_neg (by omega)]
 rw [if_neg (by omega), if_neg (c := 224 ≤ a ∧ _) (by omega)]
 by_cases c6 : a < 248
 ·by_cases g : G1 ∧ G2 ∧ G3
  ·have := q1 g.1;have := q2 g.2.1;have := q3 g.2.2
   have e : a % 8 * 262144 + b % 64 * 4096 + c % 64 * 64 + d % 64 = 64 * (64 * (64 * (a - 240) + (b - 128)) + (c - 128)) + (d - 128) := by omega
   rw [if_pos ⟨⟨⟨by omega, g.1⟩, g.2.1⟩, g.2.2⟩, e]
   by_cases c4 : 65536 ≤ 64 * (64 * (64 * (a - 240) + (b - 128)) + (c - 128)) + (d - 128) ∧ Qje (64 * (64 * (64 * (a - 240) + (b - 128)) + (c - 128)) + (d - 128))
   ·rw [if_pos c4, if_pos ⟨by omega, c6, g.1, g.2.1, g.2.2, c4⟩]
   rw [if_neg c4, if_neg (fun h => c4 h.2.2.2.2.2)]
  rw [if_neg (fun h => g ⟨h.1.1.2, h.1.2, h.2⟩), if_neg (fun h => g ⟨h.2.2.1, h.2.2.2.1, h.2.2.2.2.1⟩)]
 rw [if_neg (by omega), if_neg (by omega)]
theorem Z3g (s : List UInt8) (j : Nat) : (decide (j < s.length) && (at8 s j / 64 == 2)) = decide (goes s j) := by
 have hk := Qq4 s j
 by_cases hg : goes s j
 ·have h4 : at8 s j / 64 = 2 := by have := hg.2; omega
  simp [hg, hg.1, h4]
 simp only [hg, decide_false, Bool.and_eq_false_iff, decide_eq_false_iff_not]
 by_cases hl : j < s.length
 ·right;simp only [beq_eq_false_iff_ne, ne_eq]
  intro h4;exact hg ⟨hl, by omega, by omega⟩
 exact .inl hl
theorem Qpk (s : List UInt8) (i : Nat) : Qco s i = Qem s i := by
 have u : ∀ j, (s.getD j 0).toNat = at8 s j := fun _ => rfl;have := Qvm (at8 s i) (at8 s (i + 1)) (at8 s (i + 2)) (at8 s (i + 3)) (goes s (i + 1)) (goes s (i + 2)) (goes s (i + 3)) (Qq4 _ _) (fun h => h.2) (fun h => h.2) (fun h => h.2);unfold Qem;rw [← this];unfold Qco;simp only [Np, u, Z3g];rfl
theorem Qtj (s : List UInt8) (i : Nat) (h : i < s.length) : 1 ≤ (Qem s i).2 ∧ i + (Qem s i).2 ≤ s.length ∧ ((Qem s i).1 < 128 ↔ at8 s i < 128) ∧ (at8 s i < 128 → (Qem s i).1 = at8 s i ∧ (Qem s i).2 = 1) ∧
  (∀ k, 1 ≤ k → k < (Qem s i).2 → 128 ≤ at8 s (i + k)) ∧ Qje (Qem s i).1 := by
 have h0 := Qq4 s i;unfold Qem;split
 ·refine ⟨by simp, by simp; omega, by simp, fun _ => ⟨rfl, rfl⟩, fun k h1 h2 => by simp at h2; omega, by unfold Qje; simp; omega⟩
 split
 ·rename_i h1 h2;obtain ⟨_, _, g1, h3⟩ := h2;refine ⟨by simp, by simp; have := g1.1; omega, by simp; omega, fun h => by omega, fun k h4 h5 => ?_, by unfold Qje; simp only; have := g1.2; omega⟩
  have : k = 1 := by simp at h5; omega
  subst this; exact g1.2.1
 split
 ·rename_i h1 h2 h3;obtain ⟨_, _, g1, g2, h3, h6⟩ := h3;refine ⟨by simp, by simp; have := g2.1; omega, by simp; omega, fun h => by omega, fun k h4 h5 => ?_, h6⟩
  have : k = 1 ∨ k = 2 := by simp at h5; omega
  rcases this with rfl | rfl
  ·exact g1.2.1
  exact g2.2.1
 split
 ·rename_i h1 h2 h3 h4;obtain ⟨_, _, g1, g2, g3, h3, h6⟩ := h4;refine ⟨by simp, by simp; have := g3.1; omega, by simp; omega, fun h => by omega, fun k h4 h5 => ?_, h6⟩
  have : k = 1 ∨ k = 2 ∨ k = 3 := by simp at h5; omega
  rcases this with rfl | rfl | rfl
  ·exact g1.2.1
  ·exact g2.2.1
  exact g3.2.1
 rename_i h1 h2 h3 h4;exact ⟨by simp, by simp; omega, by simp; omega, fun h => by omega, fun k h4 h5 => by simp at h5; omega, by unfold Qje; simp⟩
def Qys (s : List UInt8) (i : Nat) : Prop := Qem s i = (65533, 1)
instance (s : List UInt8) (i : Nat) : Decidable (Qys s i) := inferInstanceAs (Decidable (_ = _))
def Qx9 (s : List UInt8) (pos : Nat) : Option Nat :=
 if h : pos < s.length then (if (Qem s pos).1 = 0 ∨ Qys s pos then some pos else Qx9 s (pos + (Qem s pos).2)) else none
termination_by s.length - pos
decreasing_by have := (Qtj s pos h).1; omega
end
end Go.Av
namespace Go.Av
noncomputable section
open Go.Proofs
theorem Z16 {b : UInt8} {n : Nat} (h : b.toNat = n) (hn : n < 256) : b = UInt8.ofNat n := by
 apply UInt8.toNat_inj.1; rw [h]; simp [UInt8.toNat_ofNat]; omega
theorem Qtf {s : List UInt8} {i : Nat} (hi : i < s.length) (hc : (Qem s i).1 = 65533) : (3 ≤ (s.drop i).length ∧ (s.drop i).take 3 = [239, 191, 189]) ↔ ¬ Qys s i := by
 constructor
 ·rintro ⟨h1, h2⟩ hn
  have hl : i + 2 < s.length := by simp at h1; omega
  have g : ∀ k, k < 3 → s[i + k]? = ([239, 191, 189] : List UInt8)[k]? := by
   intro k hk;rw [← h2, Me, if_pos hk, Mg]
  have a0 : at8 s i = 239 := by have := g 0 (by omega); simp at this; simp [at8, List.getD_eq_getElem?_getD, this]
  have a1 : at8 s (i + 1) = 191 := by have := g 1 (by omega); simp at this; simp [at8, List.getD_eq_getElem?_getD, this]
  have a2 : at8 s (i + 2) = 189 := by have := g 2 (by omega); simp at this; simp [at8, List.getD_eq_getElem?_getD, this]
  have g1 : goes s (i + 1) := ⟨by omega, by omega, by omega⟩;have g2 : goes s (i + 2) := ⟨by omega, by omega, by omega⟩;unfold Qys Qem at hn;rw [a0, a1, a2] at hn;simp [g1, g2, Qje] at hn
 intro hn;have h0 := Qq4 s i;unfold Qys at hn;unfold Qem at hn hc;split at hn
 ·rename_i h1; rw [if_pos h1] at hc; simp at hc; omega
 rename_i h1; rw [if_neg h1] at hc;split at hn
 ·rename_i h2;rw [if_pos h2] at hc;obtain ⟨_, _, g1, _⟩ := h2;have := g1.2; simp at hc; omega
 rename_i h2; rw [if_neg h2] at hc;split at hn
 ·rename_i h3;rw [if_pos h3] at hc;obtain ⟨_, _, g1, g2, _⟩ := h3;have b1 := g1.2;have b2 := g2.2;have l2 := g2.1
  simp only at hc
  have a0 : at8 s i = 239 := by omega
  have a1 : at8 s (i + 1) = 191 := by omega
  have a2 : at8 s (i + 2) = 189 := by omega
  rw [Qgj (by omega)] at a0 a1 a2;refine ⟨by simp; omega, ?_⟩;apply Mv;intro k;rw [Me]
  by_cases hk : k < 3
  ·rw [if_pos hk, Mg]
   have : k = 0 ∨ k = 1 ∨ k = 2 := by omega
   rcases this with rfl | rfl | rfl
   ·rw [Np, Ld (by omega), Z16 a0 (by omega)]; rfl
   ·rw [Ld (by omega), Z16 a1 (by omega)]; rfl
   rw [Ld (by omega), Z16 a2 (by omega)]; rfl
  rw [if_neg hk]; simp; omega
 rename_i h3; rw [if_neg h3] at hc;split at hn
 ·rename_i h4;rw [if_pos h4] at hc;obtain ⟨_, _, g1, g2, g3, h5, h6⟩ := h4
  simp only at hc
  omega
 exact absurd rfl hn
theorem Qxy (N : Nat) (s : List UInt8) : Q03 N s = some (decide (3 ≤ s.length ∧ s.take 3 = [239, 191, 189])) := by
 unfold Q03;rw [Q5o]
 by_cases h : 3 ≤ s.length
 ·have h1 : decide ((s.length : Int) ≥ 3) = true := by simp; omega
  have h2 : (Nat.ble 0 3 && Nat.ble 3 s.length) = true := by simp [h]
  rw [h1, h2];simp only [cond_true, Nj, Q4s]
  congr 1
  by_cases h3 : s.take 3 = [239, 191, 189] <;> simp [h, h3]
 have h1 : decide ((s.length : Int) ≥ 3) = false := by simp; omega
 rw [h1];simp [h]
def Z50 (o : Option Nat) : Int := match o with
 | some p => p
 | none => -1
theorem Z05 (s : List UInt8) : Tot (fun N => Q50 N s) (Z50 (Qx9 s 0)) := by
 refine TotP.tot ?_;show TotP (fun N => Wn N s N 0) _;refine Q8y (L := fun N n (p : Nat) => Wn N s n p) (fun p => Qx9 s p = Qx9 s 0) (fun p => s.length - p) (fun p hp => ?_) 0 rfl;show Stp _ _ _ (fun N n => cond (Nat.blt p s.length) _ _);refine Stp.cond (fun h => ?_) (fun h => ?_)
 ·have hl : p < s.length := by simpa [Nat.blt_eq] using h
  rw [Qpk];have hw := Qtj s p hl
  have hb : Qx9 s p = (if (Qem s p).1 = 0 ∨ Qys s p then some p else Qx9 s (p + (Qem s p).2)) := by rw [Qx9, dif_pos hl]
  rw [Q8q, Q8q];refine Stp.cond (fun h0 => ?_) (fun h0 => ?_)
  ·have h0 : (Qem s p).1 = 0 := by simpa using h0
   refine Stp.ret ?_;rw [← hp, hb, if_pos (.inl h0)]; rfl
  have h0 : (Qem s p).1 ≠ 0 := by simpa using h0
  refine Stp.cond (fun h1 => ?_) (fun h1 => ?_)
  ·have h1 : (Qem s p).1 = 65533 := by have := of_decide_eq_true h1; omega
   refine Stp.chk (by simp; omega) ?_;rw [Nx];refine Stp.bind (V := (· = decide (3 ≤ (s.drop p).length ∧ (s.drop p).take 3 = [239, 191, 189]))) ⟨_, rfl, .of fun N => Qxy N _⟩ ?_
   rintro v rfl
   have hwi := Qtf hl h1;refine Stp.cond (fun h2 => ?_) (fun h2 => ?_)
   ·have h2 : ¬ (3 ≤ (s.drop p).length ∧ (s.drop p).take 3 = [239, 191, 189]) := by
     have : (!decide (3 ≤ (s.drop p).length ∧ (s.drop p).take 3 = [239, 191, 189])) = true := h2;simpa only [Nt, decide_eq_false_iff_not] using this
    have h3 : Qys s p := Mb fun h => h2 (hwi.2 h);refine Stp.ret ?_;rw [← hp, hb, if_pos (.inr h3)]; rfl
   have h2 : (3 ≤ (s.drop p).length ∧ (s.drop p).take 3 = [239, 191, 189]) := by
    have : (!decide (3 ≤ (s.drop p).length ∧ (s.drop p).take 3 = [239, 191, 189])) = false := h2;simpa only [Bool.not_eq_false', decide_eq_true_eq] using this
   refine Stp.go (p + (Qem s p).2) ⟨?_, by have := hw.1; have := hw.2.1; omega⟩;rw [← hp, hb, if_neg]
   rintro (h | h)
   ·exact h0 h
   exact hwi.1 h2 h
  have h1 : (Qem s p).1 ≠ 65533 := by intro e; rw [e] at h1; simp at h1
  refine Stp.go (p + (Qem s p).2) ⟨?_, by have := hw.1; have := hw.2.1; omega⟩;rw [← hp, hb, if_neg]
  rintro (h | h)
  ·exact h0 h
  unfold Qys at h; rw [h] at h1; exact h1 rfl
 have hl : ¬ p < s.length := fun hlt => by
  have h' : Nat.blt p s.length = true := by rw [Bv]; exact hlt
  rw [h'] at h; cases h
 refine Stp.ret ?_;rw [← hp, Qx9, dif_neg hl]; rfl
def Qm1 (s : List UInt8) : Bool := decide (s.length ≤ 65535) && (Qx9 s 0).isNone
theorem Qxo (o : Option Nat) : decide (Z50 o = -1) = o.isNone := by
 cases o with
 | none => rfl
 | some p => simp [Z50]
theorem Q77 (s : List UInt8) : Tot (fun N => Z5 N s) (Qm1 s) := by
 refine TotP.tot ?_;show TotP (fun N => cond (Q3 .leq (s.length : Int) 65535) _ _) _;rw [Q2o];refine TotP.cond (fun h => ?_) (fun h => ?_)
 ·have h : s.length ≤ 65535 := by have := of_decide_eq_true h; omega
  refine TotP.bindE (Z05 s) (.ret ?_);rw [Q8q, Qxo]; simp [Qm1, h]
 have h : ¬ s.length ≤ 65535 := by have := of_decide_eq_false h; omega
 exact .ret (by simp [Qm1, h])
end
end Go.Av
namespace Go.Av
noncomputable section
open Go.Proofs
theorem Qo1 (s : List UInt8) : Tot (fun N => Q49 N s) (decide (s ≠ []) && Qm1 s) := by
 refine TotP.tot ?_;show TotP (fun N => cond (Q4s .neq s []) _ _) _
 have e : Q4s .neq s [] = decide (s ≠ []) := by cases s <;> rfl
 rw [e];refine TotP.cond (fun h => ?_) (fun h => ?_)
 ·exact .bindE (Q77 s) (.ret (by rw [h]; rfl))
 exact .ret (by rw [h]; rfl)
theorem Qsg (c : UInt8) : ∀ (l : List UInt8) (i : Nat), (0 ≤ Qhw l c i) ↔ c ∈ l
 | [], i => by simp [Qhw]
 | b :: l, i => by
  unfold Qhw
  by_cases h : b == c
  ·rw [if_pos h]; have := eq_of_beq h; subst this; simp
  rw [if_neg h, Qsg c l (i + 1)];have : ¬ c = b := fun e => h (by simp [e]);simp [this]
theorem Qxm {c : Nat} (h : Qje c) (h1 : 128 ≤ c) : ∃ l : List UInt8, (Utf8.encode (c : Int)).data.toList = l ∧ 2 ≤ l.length ∧ l.length ≤ 4 ∧ ∀ b ∈ l, 128 ≤ b.toNat := by
 have hv := (Qkc c).2 h;unfold Utf8.encode;simp only [hv, if_true, Lt];have h2 := h.2
 have m : ∀ n, n < 256 → 128 ≤ n → 128 ≤ (UInt8.ofNat n).toNat := fun n a b => by rw [Cj]; omega
 rw [if_neg (by omega)];split
 ·refine ⟨_, rfl, by simp, by simp, fun b hb => ?_⟩;simp only [Mj, Bl, or_false] at hb
  rcases hb with rfl | rfl <;> exact m _ (by omega) (by omega)
 split
 ·refine ⟨_, rfl, by simp, by simp, fun b hb => ?_⟩;simp only [Mj, Bl, or_false] at hb
  rcases hb with rfl | rfl | rfl <;> exact m _ (by omega) (by omega)
 refine ⟨_, rfl, by simp, by simp, fun b hb => ?_⟩;simp only [Mj, Bl, or_false] at hb
 rcases hb with rfl | rfl | rfl | rfl <;> exact m _ (by omega) (by omega)
theorem Qwn (M : Nat) : Zu (M + 3) [43, 35] (M + 3) 0 = some (-1) := by
 have e1 : Qco [43, 35] 0 = (43, 1) := by decide
 have e2 : Qco [43, 35] (0 + 1) = (35, 1) := by decide
 have b0 : Nat.blt 0 ([43, 35] : List UInt8).length = true := rfl;have b1 : Nat.blt (0 + 1) ([43, 35] : List UInt8).length = true := rfl;have b2 : Nat.blt (0 + 1 + 1) ([43, 35] : List UInt8).length = false := rfl
 have c1 : Q3 .eql ((43 : Nat) : Int) 65533 = false := by decide
 have c2 : Q3 .eql ((35 : Nat) : Int) 65533 = false := by decide
 rw [Zu, e1, b0, cond_true, c1, cond_false, Zu, e2, b1, cond_true, c2, cond_false, Zu, b2, cond_false]
theorem Qzr {c : Nat} (hc : Qje c) (N : Nat) : Yc N (c : Int) = some true := by
 unfold Yc;simp only [Q2o, Ql];obtain ⟨k1, k2⟩ := hc;rw [decide_eq_true (show (0 : Int) ≤ (c : Int) by omega)]
 by_cases h5 : (c : Int) < 55296
 ·rw [decide_eq_true h5]; rfl
 have h6 : (57343 : Int) < (c : Int) := by omega
 have h7 : (c : Int) ≤ 1114111 := by omega
 rw [decide_eq_false h5, decide_eq_true h6, decide_eq_true h7]; rfl
theorem Qw3 {c : Nat} (hc : Qje c) (h : 128 ≤ c) (M : Nat) : Xp (M + 1) [43, 35] (c : Int) (M + 1) = some (-1) := by
 obtain ⟨l, hl, l1, l2, l3⟩ := Qxm hc h;rw [Xp];simp only [hl, Ql, Q6n]
 have ew : wrap .i64 ((l.length : Int) - 1) = ((l.length - 1 : Nat) : Int) := by rw [w64 _ (by omega)]; omega
 rw [ew]
 by_cases h2 : l.length = 2
 ·have e1 : ((l.length - 1 : Nat) : Int) = ((1 : Nat) : Int) := by rw [h2]
  rw [e1];have e2 : idx l ((1 : Nat) : Int) = some l[1] := Qp (by omega);have e3 := l3 l[1] (Mf _);generalize l[1] = y at e2 e3
  have e4 : decide (((35 : UInt8).toNat : Int) ≠ (y.toNat : Int)) = true := by
   have : (35 : UInt8).toNat = 35 := rfl;simp only [ne_eq, decide_eq_true_eq]; omega
  have e5 : idx ([43, 35] : List UInt8) ((1 : Nat) : Int) = some 35 := rfl
  have e6 : wrap .i64 (((1 : Nat) : Int) + 1) = 2 := by decide
  have e7 : decide (((1 : Nat) : Int) < ((([43, 35] : List UInt8).length : Nat) : Int)) = true := by decide
  have e8 : decide ((0 : Int) ≤ 2) = true := by decide
  rw [e7, cond_true, e5, Li, e2, Li, e4, cond_true, e6, e8, cond_true]
  have e9 : (Nat.ble (Int.toNat 2) ([43, 35] : List UInt8).length && Nat.ble ([43, 35] : List UInt8).length ([43, 35] : List UInt8).length) = true := by decide
  rw [e9, cond_true, Li];rfl
 have e1 : decide (((l.length - 1 : Nat) : Int) < ((([43, 35] : List UInt8).length : Nat) : Int)) = false := by
  simp; omega
 rw [e1]; rfl
theorem Qiz {c : Nat} (hc : Qje c) : TotP (fun N => Gg N [43, 35] (c : Int)) (fun v => decide (v ≥ 0) = decide (c = 43 ∨ c = 35)) := by
 show TotP (fun N => cond (Q3 .leq 0 (c : Int)) _ _) _
 have e0 : Q3 .leq 0 (c : Int) = true := by rw [Q2o]; simp
 rw [e0];refine TotP.cond (fun _ => ?_) (fun h => by cases h);unfold Ww;rw [Ql, Q8q];refine TotP.cond (fun h => ?_) (fun h => ?_)
 ·have h : c < 128 := by have := of_decide_eq_true h; omega
  have ew : wrap .u8 (c : Int) = c := by
   rw [IntWalk.u8_in]; omega
  refine TotP.bindE (v := Qhw [43, 35] (UInt8.ofNat c) 0) (.of fun N => ?_) (.ret ?_)
  ·show ((Qt N [43, 35] _).bind fun v => some v) = _;rw [ew]; rfl
  have := Qsg (UInt8.ofNat c) [43, 35] 0;rw [decide_eq_decide];show (0 ≤ _) ↔ _;rw [this]
  have e1 : ∀ n, n < 256 → (UInt8.ofNat c = UInt8.ofNat n ↔ c = n) := fun n hn => by
   rw [← UInt8.toNat_inj, Cj, Cj]; omega
  have a := e1 43 (by omega);have b := e1 35 (by omega);simp only [Mj, Bl, or_false];exact or_congr a b
 have h : 128 ≤ c := by have := of_decide_eq_false h; omega
 have hn : decide (c = 43 ∨ c = 35) = false := by simp; omega
 refine TotP.cond (fun h1 => ?_) (fun h1 => ?_)
 ·-- bytes that are none
  refine ⟨-1, by rw [hn]; rfl, 3, fun N hN => ?_⟩;obtain ⟨M, rfl⟩ : ∃ M, N = M + 3 := ⟨N - 3, by omega⟩;exact Qwn M
 refine TotP.bindE (.of (Qzr hc)) ?_;refine TotP.cond (fun h => by cases h) (fun _ => ?_);refine ⟨-1, by rw [hn]; rfl, 1, fun N hN => ?_⟩;obtain ⟨M, rfl⟩ : ∃ M, N = M + 1 := ⟨N - 1, by omega⟩;exact Qw3 hc h M
end
end Go.Av
namespace Go.Av
noncomputable section
open Go.Proofs
def Qzd (s : List UInt8) : Bool := s.any fun b => b.toNat == 43 || b.toNat == 35
theorem Qyj {s : List UInt8} {j : Nat} (hj : j < s.length) (h : at8 s j = 43 ∨ at8 s j = 35) : Qzd s = true := by
 unfold Qzd;rw [Ct];refine ⟨s[j], Mf _, ?_⟩;rw [Qgj hj] at h
 rcases h with h | h <;> simp [h]
theorem Qym {s : List UInt8} (h : ∀ j, j < s.length → at8 s j ≠ 43 ∧ at8 s j ≠ 35) : Qzd s = false := by
 unfold Qzd;rw [List.any_eq_false];intro b hb;obtain ⟨j, hj, rfl⟩ := Bo hb;have := h j hj;rw [Qgj hj] at this;simp [this.1, this.2]
def asciiS : List Bool := (List.range 256).map fun n => n == 43 || n == 35
theorem Qt4 (n : Nat) (h : n < 256) : idx asciiS (n : Int) = some (n == 43 || n == 35) := by
 have hl : n < asciiS.length := by simp [asciiS]; exact h
 rw [Qp hl]; simp [asciiS]
set_option maxRecDepth 20000 in
theorem Qma (s : List UInt8) (hs : s.length ≤ maxLen) : TotP (fun N => J9 N s) (fun v => decide (v ≥ 0) = Qzd s) := by
 have hm := Qby;show TotP (fun N => cond (Q4s .eql [43, 35] []) _ _) _;refine TotP.cond (fun h => by cases h) (fun _ => ?_);refine TotP.bindE (v := decide ((s.length : Int) > 8)) (.of fun N => rfl) ?_;refine TotP.cond (fun _ => ?_) (fun _ => ?_)
 ·refine Q42 (L := fun N n i => X0 N s n i) s.length (fun i => ∀ j, j < i → at8 s j ≠ 43 ∧ at8 s j ≠ 35) (fun i hi hj => ?_) (fun hj => ?_) (fun j hj => by omega)
  ·show Stp _ _ _ (fun N n => cond (Q3 .lss (i : Int) (s.length : Int)) _ _);refine Stp.cond (fun _ => ?_) (fun h => by rw [Ql] at h; have := of_decide_eq_false h; omega);refine Stp.idx (Qp hi) ?_;have hb := UInt8.toNat_lt s[i];refine Stp.chk (by simp; omega) ?_;refine Stp.idx (Qt4 _ (by omega)) ?_;refine Stp.cond (fun h => ?_) (fun h => ?_)
   ·refine Stp.ret ?_;rw [Qyj hi (by rw [Qgj hi]; simpa using h)];simp
   rw [w64 _ (by omega)];refine Stp.go _ ⟨by omega, fun j hj' => ?_⟩
   by_cases e : j = i
   ·subst e; rw [Qgj hi]; simpa using h
   exact hj j (by omega)
  show Stp _ _ _ (fun N n => cond (Q3 .lss (s.length : Int) (s.length : Int)) _ _);refine Stp.cond (fun h => by rw [Ql] at h; have := of_decide_eq_true h; omega) (fun _ => ?_);refine Stp.ret ?_;rw [Qym hj]; rfl
 refine Q8y (L := fun N n (p : Nat) => X1 N s n p) (fun p => ∀ j, j < p → at8 s j ≠ 43 ∧ at8 s j ≠ 35) (fun p => s.length - p) (fun p hp => ?_) 0 (fun j hj => by omega);show Stp _ _ _ (fun N n => cond (Nat.blt p s.length) _ _);refine Stp.cond (fun h => ?_) (fun h => ?_)
 ·have hl : p < s.length := by simpa [Nat.blt_eq] using h
  rw [Qpk];obtain ⟨w1, w2, w3, w4, w5, w6⟩ := Qtj s p hl;refine Stp.bind (Qiz w6) ?_;intro v hv;rw [Q5o, hv];refine Stp.cond (fun h => ?_) (fun h => ?_)
  ·have h := of_decide_eq_true h;have h128 : at8 s p < 128 := w3.1 (by omega);refine Stp.ret ?_;rw [Qyj hl (by rw [← (w4 h128).1]; exact h)];simp
  have h := of_decide_eq_false h;refine Stp.go _ ⟨fun j hj => ?_, by omega⟩
  by_cases e : j < p
  ·exact hp j e
  by_cases e2 : j = p
  ·subst e2
   by_cases h128 : at8 s j < 128
   ·rw [(w4 h128).1] at h; omega
   omega
  have := w5 (j - p) (by omega) (by omega);rw [show p + (j - p) = j by omega] at this;omega
 refine Stp.ret ?_;rw [Qym (fun j hj => hp j ?_)]
 ·rfl
 have : ¬ p < s.length := fun hlt => by
  have h' : Nat.blt p s.length = true := by rw [Bv]; exact hlt
  rw [h'] at h; cases h
 omega
theorem Qe2 (s : List UInt8) (hs : s.length ≤ maxLen) : Tot (fun N => Zw N s) (Qzd s) := by
 refine TotP.tot ?_;refine TotP.bind (Qma s hs) (fun v hv => .ret ?_);rw [Q5o]; exact hv
def Qrs (s : List UInt8) : Bool := decide (s ≠ []) && Qm1 s && !Qzd s
theorem Q7b (s : List UInt8) (hs : s.length ≤ maxLen) : Tot (fun N => Zf N s) (Qrs s) := by
 refine TotP.tot ?_;refine TotP.bindE (Qo1 s) ?_;refine TotP.cond (fun h => ?_) (fun h => ?_)
 ·refine TotP.bindE (Qe2 s hs) (.ret ?_);unfold Qrs; rw [h]; rfl
 exact .ret (by unfold Qrs; rw [h]; rfl)
end
end Go.Av
namespace Go.Av
noncomputable section
def Any {R : Type} (f : Nat → Option R) : Prop := TotP f fun _ => True
theorem Qoi (N : Nat) (x a b : Int) : Ub N x a b = some (decide (a ≤ x) && decide (x ≤ b)) := by
 unfold Ub;rw [Q5o, Q2o]
 by_cases h : a ≤ x
 ·rw [decide_eq_true (p := x ≥ a) h]; rfl
 rw [decide_eq_false (p := x ≥ a) h]; rfl
theorem Z1g (s : List UInt8) (hs : s.length = 2) : Any (fun N => Vy N s) := by
 match s, hs with
 | [a, b], _ => exact ⟨_, trivial, 3, fun N hN => by
   obtain ⟨M, rfl⟩ : ∃ M, N = M + 3 := ⟨N - 3, by omega⟩
   rfl⟩
theorem Quj (s : List UInt8) (hs : s.length ≤ maxLen) : Any (fun N => Q2q N s) := by
 show TotP (fun N => cond (Q3 .neq (s.length : Int) 2) _ _) _;rw [Q6n];refine TotP.cond (fun _ => .ret trivial) (fun h => ?_)
 have h : s.length = 2 := by have := of_decide_eq_false h; omega
 refine TotP.bindE (Q7b s hs) ?_;refine TotP.cond (fun _ => .ret trivial) (fun _ => ?_);exact TotP.bind (Z1g s h) (fun _ _ => .ret trivial)
theorem Jk (n size : Int) : TotP (fun N => Qo N n size) (fun l => l.length ≤ 16) := by
 show TotP (fun N => cond (Q3 .leq size 0) _ _) _;rw [Q2o];refine TotP.cond (fun _ => .ret (by simp)) (fun h => ?_)
 have h : 0 < size := by have := of_decide_eq_false h; omega
 obtain ⟨m, hm, hm16⟩ : ∃ m : Nat, ifB (decide (16 < size)) (16 : Int) size = (m : Int) ∧ m ≤ 16 := by
  by_cases g : 16 < size
  ·exact ⟨16, by rw [decide_eq_true g]; rfl, by omega⟩
  exact ⟨size.toNat, by rw [decide_eq_false g]; show size = _; omega, by omega⟩
 rw [hm];refine TotP.chk (by simp only [La, decide_eq_true_eq]; omega) ?_;have := Q8y (L := fun N n' (p : Int × List Int) => Xd N n size n' p.1 p.2) (Q := fun l : List UInt8 => l.length ≤ 16) (fun p => ∃ i : Nat, p.1 = (i : Int) ∧ i ≤ m ∧ p.2.length = m) (fun p => m - p.1.toNat)
  ?_ (0, List.replicate ((m : Int).toNat) 0) ⟨0, rfl, by omega, by simp⟩
 ·exact this
 rintro ⟨s, l⟩ ⟨i, hs, hi, hl⟩
 simp only at hs hl
 subst hs;show Stp _ _ _ (fun N n' => cond (Q3 .lss (i : Int) (ifB (decide (16 < size)) 16 size)) _ _);rw [hm, Ql, Ql];refine Stp.cond (fun h => ?_) (fun h => ?_)
 ·have h := of_decide_eq_true h
  have e1 : wrap .i64 ((i : Int) + 1) = ((i + 1 : Nat) : Int) := by rw [w64 _ (by omega)]; omega
  refine Stp.cond (fun h8 => ?_) (fun h8 => ?_)
  ·have h8 := of_decide_eq_true h8;refine Stp.chk ?_ ?_
   ·rw [w64 (8 * (i : Int)) (by omega)]
    have : i = 0 ∨ i = 1 ∨ i = 2 ∨ i = 3 ∨ i = 4 ∨ i = 5 ∨ i = 6 ∨ i = 7 := by omega
    rcases this with rfl | rfl | rfl | rfl | rfl | rfl | rfl | rfl <;> rfl
   have e2 : wrap .i64 (wrap .i64 ((m : Int) - 1) - (i : Int)) = ((m - 1 - i : Nat) : Int) := by rw [w64 ((m : Int) - 1) (by omega), w64 _ (by omega)]; omega
   rw [e1, e2];refine Stp.idx (Qp (show m - 1 - i < l.length by omega)) ?_;refine Stp.go (L := fun N n' (p : Int × List Int) => Xd N n size n' p.1 p.2) (_, _) ⟨⟨i + 1, rfl, by omega, by simp [hl]⟩, ?_⟩;simp only [Lt]; omega
  rw [e1];refine Stp.go (L := fun N n' (p : Int × List Int) => Xd N n size n' p.1 p.2) (_, _) ⟨⟨i + 1, rfl, by omega, hl⟩, ?_⟩;simp only [Lt]; omega
 exact Stp.ret (by simp [hl]; exact hm16)
theorem Qhs (x : Int) : TotP (fun N => Jo N x) (fun r => r.1.length ≤ 268435456) := by
 show TotP (fun N => (Q4e N x).bind _) _
 have hm : ∀ N, Q4e N x = some (decide (0 ≤ x) && decide (x ≤ 268435455)) := fun N => by
  show cond (Q3 .geq x 0) (some (Q3 .leq x 268435455)) (some false) = _;rw [Q5o, Q2o]
  by_cases h : 0 ≤ x
  ·rw [decide_eq_true (p := x ≥ 0) h]; rfl
  rw [decide_eq_false (p := x ≥ 0) h]; rfl
 refine TotP.bindE (.of hm) ?_;refine TotP.cond (fun _ => .ret (by simp)) (fun h => ?_)
 have h : 0 ≤ x ∧ x ≤ 268435455 := by simpa using h
 have := Q8y (L := fun N n' (p : Int × List Int) => V2 N n' p.1 p.2) (Q := fun r : List UInt8 × Int => r.1.length ≤ 268435456) (fun p => 0 ≤ p.1 ∧ (p.2.length : Int) ≤ 268435455 - p.1) (fun p => p.1.toNat)
  ?_ (x, []) ⟨h.1, by simp; omega⟩
 ·exact this
 rintro ⟨s, l⟩ ⟨h1, h2⟩
 simp only at h1 h2
 show Stp _ _ _ (fun N n' => cond (Q3 .geq s 128) _ _);rw [Q5o];refine Stp.cond (fun h => ?_) (fun h => ?_)
 ·have h := of_decide_eq_true h;refine Stp.chk (by rw [Lk]; dsimp only; omega) ?_;have e : s.tdiv 128 = s / 128 := Cn h1;rw [e, w64 _ (by omega)];refine Stp.go (L := fun N n' (p : Int × List Int) => V2 N n' p.1 p.2) (_, _) ⟨⟨by simp only; omega, by simp only [Lg, Lj, Ll]; omega⟩, by simp only; omega⟩
 refine Stp.chk (by rw [Lk]; dsimp only; omega) ?_;exact Stp.ret (by simp; omega)
theorem Qdf (s : List UInt8) : TotP (fun N => J4 N s) (fun r => r.1.length ≤ 65551) := by
 show TotP (fun N => cond (Q3 .gtr (s.length : Int) 65535) _ _) _;rw [Q6g];refine TotP.cond (fun _ => .ret (by simp)) (fun h => ?_);have h := of_decide_eq_false h;refine TotP.bind (f := fun N => J3 N s) (V := fun l => l.length ≤ 65551) ?_ (fun v hv => .ret hv);refine TotP.bind (Jk _ _) (fun v hv => ?_);refine TotP.chk (by rw [Lk]; omega) (.ret ?_)
 simp; omega
theorem Qso (h : Vi) (hh : h.Node.length ≤ 300) : TotP (fun N => Jw N h) (fun l => l.length ≤ 400) := by
 refine TotP.bind (Jk _ _) (fun a ha => ?_);refine TotP.bind (Jk _ _) (fun b hb => ?_);refine TotP.chk (by rw [Lk]; omega) ?_;refine TotP.bind (Jk _ _) (fun c hc => ?_);refine TotP.chk (by rw [Lk]; simp; omega) ?_;refine TotP.chk (by rw [Lk]; simp; omega) (.ret ?_)
 simp; omega
theorem Qua (h : Vi) : Any (fun N => Q1y N h) := by
 refine TotP.bind (V := fun _ => True) ?_ (fun _ _ => .ret trivial);show TotP (fun N => cond (Q3 .geq h.Radius 0) _ _) _;refine TotP.cond (fun _ => TotP.cond (fun _ => TotP.cond (fun _ => .ret trivial) (fun _ => .ret trivial)) (fun _ => .ret trivial)) (fun _ => .ret trivial)
section
variable (e : Qn) (lm : Ya) (h1 : e.Hops.length ≤ 8) (h2 : ∀ h ∈ e.Hops, h.Node.length ≤ 300)
include h1 h2
end
end
end Go.Av
namespace Go.Av
noncomputable section
section
variable {R S T : Type} {L : Nat → Nat → S → Option R} {P : S → Prop} {Q : R → Prop}
theorem Stp.optN {f : Nat → Nat → T → Option R} {z : Nat → Nat → Option R} (h : Stp L P Q z) : Stp L P Q (fun N n => optC none (f N n) (z N n)) := h
theorem Stp.optS {v : T} {f : Nat → Nat → T → Option R} {z : Nat → Nat → Option R} (h : Stp L P Q (fun N n => f N n v)) : Stp L P Q (fun N n => optC (some v) (f N n) (z N n)) := h
end
theorem Qlo {T : Type} {x : Int} {v : T} : ∀ {tab : List (Int × T)}, Q7c tab x = some v → (x, v) ∈ tab
 | (k, w) :: r, h => by
  unfold Q7c at h
  cases hb : x == k with
  | true => rw [hb] at h; have e := eq_of_beq hb; subst e; cases h; exact List.mem_cons_self
  | false => rw [hb] at h; exact List.mem_cons_of_mem _ (Qlo h)
 | [], h => nomatch h
theorem Qwx {x : Int} {v : Qm} (h : Q7c F_prop_rules_tab x = some v) : 1 ≤ x ∧ x ≤ 42 := by
 have hall : (F_prop_rules_tab.all fun q => decide (1 ≤ q.1) && decide (q.1 ≤ 42)) = true := by decide +kernel
 have := Lw.1 hall _ (Qlo h);simpa using this
theorem Qt3 (s : Int) (p : Qc) : TotP (fun N => G6 N s p) (fun l => l.length ≤ 268500000) := by
 refine TotP.cond (fun _ => TotP.bind (Jk _ _) (fun v hv => .ret (by omega))) (fun _ => ?_);refine TotP.cond (fun _ => TotP.bind (Jk _ _) (fun v hv => .ret (by omega))) (fun _ => ?_);refine TotP.cond (fun _ => TotP.bind (Jk _ _) (fun v hv => .ret (by omega))) (fun _ => ?_);refine TotP.cond (fun _ => TotP.bind (Qhs _) (fun v hv => .ret (by omega))) (fun _ => ?_);refine TotP.bind (Qdf _) (fun v hv => ?_);refine TotP.cond (fun _ => .ret (by omega)) (fun _ => ?_);refine TotP.bind (Qdf _) (fun w hw => ?_);exact TotP.chk (by rw [Lk]; omega) (.ret (by simp only [Lg]; omega))
end
end Go.Av
namespace Go.Av
noncomputable section
theorem Qg7 (l : List Qc) (hb : l.length ≤ maxLen) : TotP (fun N => Z7 N l) (fun v => v = true → l.length ≤ 30 ∧ ∀ p ∈ l, p.Text.length ≤ 300 ∧ p.Value.length ≤ 300) := by
 have hm := Qby
 ·refine Q42 (L := fun N n s => Zs N l n s) l.length (fun i => ∀ j (h : j < l.length), j < i → (l[j]).Text.length ≤ 300 ∧ (l[j]).Value.length ≤ 300) (fun i hi hj => ?_) (fun hj => ?_) (fun j _ hj => by omega)
  ·show Stp _ _ _ (fun N n => cond (Q3 .lss (i : Int) ((Q8 Qc.cells l).length : Int)) _ _);rw [Q5, Ql];refine Stp.cond (fun _ => ?_) (fun h => by have := of_decide_eq_false h; omega);refine Stp.idx (Qp hi) ?_;rw [Q6g];refine Stp.cond (fun _ => Stp.ret (fun h => nomatch h)) (fun h1 => ?_);refine Stp.idx (Qp hi) ?_;rw [Q6g];refine Stp.cond (fun _ => Stp.ret (fun h => nomatch h)) (fun h2 => ?_);have h1 := of_decide_eq_false h1; have h2 := of_decide_eq_false h2;rw [w64 _ (by omega)];refine Stp.go (L := fun N n s => Zs N l n s) _ ⟨by omega, fun j hj' hji => ?_⟩
   by_cases e : j = i
   ·subst e; constructor <;> omega
   exact hj j hj' (by omega)
  show Stp _ _ _ (fun N n => cond (Q3 .lss (l.length : Int) ((Q8 Qc.cells l).length : Int)) _ _);rw [Q5, Ql];refine Stp.cond (fun h => by have := of_decide_eq_true h; omega) (fun _ => Stp.ret (fun h => ⟨?_, fun p hp => ?_⟩))
  ·rw [Q2o] at h; have := of_decide_eq_true h; omega
  obtain ⟨j, hj', rfl⟩ := Bo hp;exact hj j hj' hj'
theorem Z4a (x : Int) : wrap .i64 x ≤ 9223372036854775807 := by rw [IntKind.wrap_i64]; omega
theorem Qsy : ∀ (k : Nat) (v : Q0) (deep most : Int), deep < (k : Int) → -1 ≤ deep → deep ≤ 1000 → most ≤ 9223372036854775807 → Any (fun N => Zk N v deep most) := by
 intro k
 induction k with
 | zero =>
  intro v deep most h _ _ _;refine ⟨wrap .i64 (most + 1), trivial, 1, fun N hN => ?_⟩;obtain ⟨M, rfl⟩ : ∃ M, N = M + 1 := ⟨N - 1, by omega⟩;show cond (Q3 .lss deep 0) _ _ = _;rw [Ql, decide_eq_true (by omega)]; rfl
 | succ k ih =>
  intro v deep most h hd hdm hm
  have body : Any (fun N => Uv (Zk N) N v deep most) := by
   refine TotP.cond (fun _ => .ret trivial) (fun h1 => ?_);refine TotP.cond (fun _ => .ret trivial) (fun h2 => ?_);refine TotP.cond (fun _ => .ret trivial) (fun _ => ?_);rw [Ql] at h1; rw [Q0.rows_eq, Q5, Q6g] at h2;have h1 := of_decide_eq_false h1; have h2 := of_decide_eq_false h2;have := Q8y (L := fun N n (p : Int × Int) => Zv (Zk N) N v deep most n p.1 p.2) (Q := fun _ => True) (fun p => ∃ i : Nat, p.2 = (i : Int) ∧ i ≤ v.Items.length) (fun p => v.Items.length - p.2.toNat) ?_ (1, 0) ⟨0, rfl, by omega⟩
   ·exact this
   rintro ⟨q, s⟩ ⟨i, hs, hi⟩
   simp only at hs
   subst hs;show Stp _ _ _ (fun N n => cond (Q3 .lss (i : Int) ((Q0.rows v.Items).length : Int)) _ _);rw [Q0.rows_eq, Q5, Ql];refine Stp.cond (fun h => ?_) (fun _ => Stp.ret trivial);have h := of_decide_eq_true h
   have hi : i < v.Items.length := by omega
   refine Stp.cond (fun _ => ?_) (fun _ => Stp.ret trivial);refine Stp.idx (Qp hi) ?_;rw [w64 (deep - 1) (by omega)];refine Stp.bind (f := fun N => Zk N (v.Items[i]) (deep - 1) (wrap .i64 (most - q))) (V := fun _ => True) (ih v.Items[i] (deep - 1) (wrap .i64 (most - q)) (by omega) (by omega) (by omega) (Z4a (most - q))) (fun w _ => ?_);rw [w64 ((i : Int) + 1) (by omega)];refine Stp.go (L := fun N n (p : Int × Int) => Zv (Zk N) N v deep most n p.1 p.2) (_, _) ⟨⟨i + 1, by simp only; omega, by omega⟩, by simp only; omega⟩
  obtain ⟨r, _, N0, hN⟩ := body;refine ⟨r, trivial, N0 + 1, fun N h => ?_⟩;obtain ⟨M, rfl⟩ : ∃ M, N = M + 1 := ⟨N - 1, by omega⟩;exact hN M (by omega)
theorem Qtp (f : Yi) : Any (fun N => Zz N f) := by
 refine TotP.cond (fun _ => .ret trivial) (fun h0 => ?_);rw [Q0.rows_eq, Q5, Q6g] at h0;have h0 := of_decide_eq_false h0;refine TotP.cond (fun _ => .ret trivial) (fun _ => ?_);refine Q42 (L := fun N n s => Z3 N f n s) f.Values.length (fun _ => True) (fun i hi _ => ?_) (fun _ => ?_) trivial
 ·show Stp _ _ _ (fun N n => cond (Q3 .lss (i : Int) ((Q0.rows f.Values).length : Int)) _ _);rw [Q0.rows_eq, Q5];refine Stp.cond (fun _ => ?_) (fun _ => Stp.ret trivial);refine Stp.idx (Qp hi) ?_;refine Stp.bind (V := fun _ => True) (TotP.bind (Qsy 7 _ 6 40 (by decide) (by decide) (by decide) (by decide)) (fun _ _ => .ret trivial)) (fun _ _ => ?_);refine Stp.cond (fun _ => Stp.ret trivial) (fun _ => ?_);rw [w64 _ (by omega)];exact Stp.go (L := fun N n s => Z3 N f n s) _ ⟨by omega, trivial⟩
 show Stp _ _ _ (fun N n => cond (Q3 .lss (f.Values.length : Int) ((Q0.rows f.Values).length : Int)) _ _);rw [Q0.rows_eq, Q5];refine Stp.cond (fun h => by rw [Ql] at h; have := of_decide_eq_true h; omega) (fun _ => Stp.ret trivial)
structure OkE (e : Qn) : Prop where
 topic : e.Topic.length ≤ maxLen
 props : e.Props.length ≤ maxLen
 filters : e.Packet.Filters.length ≤ maxLen
 pprops : e.Packet.Props.length ≤ maxLen
 wprops : e.Packet.Will.Props.length ≤ maxLen
structure LightE (e : Qn) : Prop where
 topic : e.Topic.length ≤ 2000
 payload : e.Payload.length ≤ 2000
 props : e.Props.length ≤ 30 ∧ ∀ p ∈ e.Props, p.Text.length ≤ 300 ∧ p.Value.length ≤ 300
 hops : e.Hops.length ≤ 8 ∧ ∀ h ∈ e.Hops, h.Node.length ≤ 300
def Lv (o : Option Int) (P : Prop) : Prop := ∃ v, o = some v ∧ (v = 0 → P)
theorem Lv.of {v : Int} {P : Prop} (h : P) : Lv (some v) P := ⟨v, rfl, fun _ => h⟩
theorem Lv.no {v : Int} {P : Prop} (h : v ≠ 0) : Lv (some v) P := ⟨v, rfl, fun e => absurd e h⟩
theorem Lv.cond {b : Bool} {x y : Option Int} {P : Prop} (h1 : Lv x P) (h2 : Lv y P) : Lv (cond b x y) P := by cases b <;> assumption
structure PubE (e : Qn) : Prop where
 proto : e.Proto = 1 ∨ e.Proto = 2 ∨ e.Proto = 3 ∨ e.Proto = 4
 kind : e.Kind = 1
 qos : e.QoS = -1 ∨ e.QoS = 0 ∨ e.QoS = 1 ∨ e.QoS = 2
theorem Qx0 (N : Nat) (p : Int) : Q37 N p = some (decide (p = 1 ∨ p = 2 ∨ p = 3 ∨ p = 4)) := by
 by_cases h : p = 1 ∨ p = 2 ∨ p = 3 ∨ p = 4
 ·rw [decide_eq_true h]; rcases h with rfl | rfl | rfl | rfl <;> rfl
 have h0 : Q7c Vx p = none := by
  have h1 : (p == 1) = false := by simp; omega
  have h2 : (p == 2) = false := by simp; omega
  have h3 : (p == 3) = false := by simp; omega
  have h4 : (p == 4) = false := by simp; omega
  unfold Vx;simp only [Q7c, h1, h2, h3, h4, cond_false]
 unfold Q37;rw [h0, decide_eq_false h]; rfl
end
end Go.Av
namespace Go.Av
noncomputable section
open Go.Proofs
set_option maxRecDepth 100000
end
end Go.Av
namespace Go.Av
noncomputable section
open Go.Proofs
set_option maxRecDepth 100000
end
end Go.Av
namespace Go.Av
noncomputable section
open Go.Proofs
set_option maxRecDepth 100000
end
end Go.Av
namespace Go.Av
noncomputable section
open Go.Proofs
set_option maxRecDepth 100000
theorem Z0m (v : Q0) (h : v.txt) : v.wgt ≤ 430 * v.sz := by
 induction v using Q0.ind with
 | h v ih =>
  rw [Q0.txt_eq] at h
  have hl : ∀ l : List Q0, (∀ x ∈ l, x.wgt ≤ 430 * x.sz) → Q0.wgts l ≤ 430 * Q0.szs l := by
   intro l
   induction l with
   | nil => intro _; simp [Q0.wgts]
   | cons x l ihl =>
    intro h;have h1 := h x (.head _);have h2 := ihl (fun y hy => h y (.tail _ hy));simp only [Q0.wgts, Q0.szs]; omega
  have := hl v.Items (fun x hx => ih x hx (Qiu _ h.2 x hx));rw [v.wgt_eq, v.sz_eq]; omega
end
end Go.Av
namespace Go.Av
noncomputable section
open Go.Proofs
set_option maxRecDepth 100000
end
end Go.Av
namespace Go.Av
noncomputable section
open Go.Proofs
set_option maxRecDepth 100000
end
end Go.Av
namespace Go.Av
noncomputable section
open Go.Proofs
set_option maxRecDepth 100000
structure FB (f : Yi) : Prop where
 fine : ∀ x ∈ f.Values, Fine x
 sz : Q0.szs f.Values < 160000000
 wgt : Q0.wgts f.Values < 4000000000
theorem FB.one {f : Yi} (h : FB f) : ∀ x ∈ f.Values, Fine x ∧ x.sz < 160000000 ∧ x.wgt < 4000000000 := fun x hx => by
 have h1 := Q0.szs_mem _ x hx;have h2 := Qo2 _ x hx;have h3 := h.sz;have h4 := h.wgt;exact ⟨h.fine x hx, by omega, by omega⟩
theorem FB.len {f : Yi} (h : FB f) : f.Values.length < 160000000 := by
 have h1 := Q0.szs_len f.Values;have h2 := h.sz;omega
end
end Go.Av
namespace Go.Av
noncomputable section
open Go.Proofs
set_option maxRecDepth 100000
theorem Yi.ext' {a b : Yi} (h1 : a.Type' = b.Type') (h2 : a.Channel = b.Channel) (h3 : a.Ext = b.Ext) (h4 : a.Values = b.Values) : a = b := by cases a; cases b; simp_all
noncomputable instance : DecidableEq Yi := fun a b => decidable_of_iff (a.Type' = b.Type' ∧ a.Channel = b.Channel ∧ a.Ext = b.Ext ∧ a.Values = b.Values) ⟨fun h => Yi.ext' h.1 h.2.1 h.2.2.1 h.2.2.2, fun h => by rw [h]; exact ⟨rfl, rfl, rfl, rfl⟩⟩
theorem Qx3 (l m : List Q0) (i : Nat) (h : i < l.length) (h' : i < m.length) : decide (l.drop i = m.drop i) = (decide (l[i] = m[i]) && decide (l.drop (i + 1) = m.drop (i + 1))) := by
 rw [No h, No h', Cz];simp only [decide_eq_true_eq, La, Ca]
theorem Qm7 {N : Nat} (hN : 800000000 ≤ N) {a b : Yi} (ha : Q0.szs a.Values < 700000000) (hl : a.Values.length = b.Values.length) : ∀ (n i : Nat), i ≤ a.Values.length → a.Values.length - i < n → Yv N a b n (i : Int) = some (decide (a.Values.drop i = b.Values.drop i))
 | 0, i, _, h => by omega
 | n + 1, i, hi, hn => by
  have hs := Q0.szs_len a.Values;simp only [Yv, Q3n, Qk1, Q2y, Qak]
  by_cases h : i < a.Values.length
  ·have h' : i < b.Values.length := by omega
   have hx := Q0.szs_mem _ _ (Mf h);rw [if_pos (by omega), Ld h, Ld h'];simp only [Li];rw [Qvc N _ _ (by omega) (by omega), Qx3 _ _ i h h'];simp only [Li];rw [Qbe _ (by omega)];have ih := Qm7 hN ha hl n (i + 1) (by omega) (by omega)
   have ih : Yv N a b n ((i : Int) + 1) = some (decide (a.Values.drop (i + 1) = b.Values.drop (i + 1))) := by exact_mod_cast ih
   rw [ih];cases decide (a.Values[i] = b.Values[i]) <;> rfl
  rw [if_neg (by omega), Mr (by omega), Mr (by omega)]; rfl
theorem Qg5 {N : Nat} (hN : 800000000 ≤ N) (a b : Yi) (ha : Q0.szs a.Values < 700000000) : Xq N a b = some (decide (a = b)) := by
 have hs := Q0.szs_len a.Values;simp only [Xq, Q3n, Z3e, Qq2, Q2y]
 by_cases h1 : a.Type' = b.Type'
 ·rw [if_neg (by simp [h1])]
  by_cases h2 : a.Channel = b.Channel
  ·rw [if_neg (by simp [h2])]
   by_cases h3 : a.Ext = b.Ext
   ·rw [if_neg (by simp [h3])]
    by_cases h4 : a.Values.length = b.Values.length
    ·rw [if_neg (by simp [h4])];have := Qm7 hN ha h4 N 0 (by omega) (by omega);rw [Nj, Nj] at this
     have : Yv N a b N 0 = some (decide (a.Values = b.Values)) := by exact_mod_cast this
     rw [this]
     congr 1
     rw [Cz];simp only [decide_eq_true_eq];exact ⟨fun h => Yi.ext' h1 h2 h3 h, fun h => by rw [h]⟩
    rw [if_pos (by omega), decide_eq_false (fun h => h4 (by rw [h]))]
   rw [if_pos h3, decide_eq_false (fun h => h3 (by rw [h]))]
  rw [if_pos h2, decide_eq_false (fun h => h2 (by rw [h]))]
 rw [if_pos h1, decide_eq_false (fun h => h1 (by rw [h]))]
theorem Qle {N : Nat} (hN : 800000000 ≤ N) {f : Yi} (hl : f.Values.length ≤ 6) : ∀ (n i : Nat), i ≤ f.Values.length → f.Values.length - i < n → ∃ b, Z3 N f n (i : Int) = some b ∧ (b = true → ∀ x ∈ f.Values.drop i, x.sz ≤ 40 ∧ x.txt)
 | 0, i, _, h => by omega
 | n + 1, i, hi, hn => by
  simp only [Z3, Q3n, Qk1, Q2y, Qak]
  by_cases h : i < f.Values.length
  ·rw [if_pos (by omega), Ld h];obtain ⟨b1, l1, l2⟩ := Qr7 N f.Values[i] (by omega);simp only [Li, l1]
   cases b1 with
   | false => exact ⟨false, rfl, fun h => by cases h⟩
   | true =>
    rw [Qbe _ (by omega)];obtain ⟨b, e1, e2⟩ := Qle hN hl n (i + 1) (by omega) (by omega);refine ⟨b, ?_, fun hb x hx => ?_⟩
    ·simp only [Bm, Lm, if_false]; exact_mod_cast e1
    rw [No h] at hx
    rcases Mj.1 hx with rfl | hx
    ·exact l2 rfl
    exact e2 hb x hx
  rw [if_neg (by omega), Mr (by omega)];exact ⟨true, rfl, fun _ x hx => by cases hx⟩
theorem Qmj {N : Nat} (hN : 800000000 ≤ N) (f : Yi) : ∃ b, Zz N f = some b ∧ (b = true → f.Values.length ≤ 6 ∧ f.Ext.length ≤ 1100 ∧ ∀ x ∈ f.Values, x.sz ≤ 40 ∧ x.txt) := by
 simp only [Zz, Q3n, Qss, Q2y]
 by_cases h1 : (f.Values.length : Int) > 6
 ·rw [if_pos h1]; exact ⟨false, rfl, fun h => by cases h⟩
 rw [if_neg h1]
 by_cases h2 : (f.Ext.length : Int) > 1100
 ·rw [if_pos h2]; exact ⟨false, rfl, fun h => by cases h⟩
 rw [if_neg h2];obtain ⟨b, e1, e2⟩ := Qle hN (f := f) (by omega) N 0 (by omega) (by omega);refine ⟨b, by exact_mod_cast e1, fun hb => ⟨by omega, by omega, ?_⟩⟩;have := e2 hb
 rwa [Nj] at this
theorem Qib : ∀ (l : List Q0), (∀ x ∈ l, x.sz ≤ 40 ∧ x.txt) → Q0.szs l ≤ 40 * l.length ∧ Q0.wgts l ≤ 17200 * l.length
 | [], _ => by simp [Q0.szs, Q0.wgts]
 | x :: m, h => by
  have h1 := h x (.head _);have h2 := Qib m (fun y hy => h y (.tail _ hy));have h3 := Z0m x h1.2;simp only [Q0.szs, Q0.wgts, Lj]; omega
theorem Qxr {f : Yi} (hl : f.Values.length ≤ 6) (h : ∀ x ∈ f.Values, x.sz ≤ 40 ∧ x.txt) (hv : ∀ x ∈ f.Values, OkV x) : FB f := by
 obtain ⟨h1, h2⟩ := Qib _ h;exact ⟨fun x hx => Qzs x (hv x hx) (h x hx).2, by omega, by omega⟩
end
end Go.Av
namespace Go.Av
noncomputable section
theorem Qb6 (x y : List UInt8) : Q4s .eql x y = decide (x = y) := by
 show (x == y) = _
 by_cases h : x = y
 ·rw [h]; simp
 rw [decide_eq_false h]; exact beq_eq_false_iff_ne.2 h
theorem Qpd (x y : List UInt8) : Q4s .neq x y = decide (x ≠ y) := by
 show (!(x == y)) = _
 by_cases h : x = y
 ·rw [h]; simp
 rw [decide_eq_true h, beq_eq_false_iff_ne.2 h]; rfl
section
variable {T : Type}
theorem Qk3 {L : Nat → Nat → Int → Option Bool} {a b : List T} {eq : T → T → Bool} (heq : ∀ x y, eq x y = true ↔ x = y) (hab : a.length = b.length) (hm : a.length ≤ maxLen)
  (step : ∀ N n (i : Nat) (h : i < a.length) (h' : i < b.length), L N (n + 1) (i : Int) = cond (!(eq a[i] b[i])) (some false) (L N n (wrap .i64 ((i : Int) + 1)))) (fin : ∀ N n, L N (n + 1) (a.length : Int) = some true) :
  TotP (fun N => L N N 0) (fun v => v = true ↔ a = b) := by
 have hml := Qby;refine Q42 (L := L) a.length (fun i => ∀ j (h : j < a.length) (h' : j < b.length), j < i → a[j] = b[j]) (fun i hi hj => ?_) (fun hj => ?_) (fun j _ _ hj => by omega)
 ·have e : (fun N n => L N (n + 1) (i : Int)) = fun N n => cond (!(eq (a[i]'hi) (b[i]'(by omega)))) (some false) (L N n (wrap .i64 ((i : Int) + 1))) := by
   funext N n; exact step N n i hi (by omega)
  rw [e, w64 _ (by omega)];refine Stp.cond (fun h => Stp.ret ?_) (fun h => Stp.go (L := L) _ ⟨by omega, fun j hj1 hj2 hji => ?_⟩)
  ·have h : ¬ eq (a[i]'hi) (b[i]'(by omega)) = true := by simpa using h
   refine ⟨fun h => (by cases h), fun e => absurd ((heq _ _).2 ?_) h⟩;subst e; rfl
  have h : eq (a[i]'hi) (b[i]'(by omega)) = true := by simpa using h
  by_cases e : j = i
  ·subst e; exact (heq _ _).1 h
  exact hj j hj1 hj2 (by omega)
 have e : (fun N n => L N (n + 1) (a.length : Int)) = fun _ _ => some true := by funext N n; exact fin N n
 rw [e];exact Stp.ret ⟨fun _ => Cw hab (fun j h1 h2 => hj j h1 h2 h1), fun _ => rfl⟩
end
theorem Z3h {x y : Qc} : (((x.ID : Int) == y.ID) && (((x.N' : Int) == y.N') && (((x.Text : List UInt8) == y.Text) && (((x.Value : List UInt8) == y.Value) && true)))) = true ↔ x = y := by
 cases x; cases y; simp
theorem Zhu {x y : Vi} : (((x.Radius : Int) == y.Radius) && (((x.Node : List UInt8) == y.Node) && true)) = true ↔ x = y := by
 cases x; cases y; simp
theorem Z11 {x y : Qe} : (((x.Topic : List UInt8) == y.Topic) && (((x.QoS : Int) == y.QoS) && (((x.NoLocal : Bool) == y.NoLocal) && (((x.AsPublished : Bool) == y.AsPublished) && (((x.Handling : Int) == y.Handling) && true))))) = true ↔ x = y := by
 cases x; cases y; simp
theorem Qe1 (a b : List Qc) (ha : a.length ≤ maxLen) : TotP (fun N => Wj N a b) (fun v => v = true ↔ a = b) := by
 unfold Wj;rw [Q5, Q5, Q6n];refine TotP.cond (fun h => .ret ⟨fun h => (by cases h), fun e => ?_⟩) (fun h => ?_)
 ·have := of_decide_eq_true h; subst e; exact absurd rfl this
 have h := of_decide_eq_false h
 have hab : a.length = b.length := by omega
 refine Qk3 (L := fun N n i => Xh N a b n i) (eq := fun x y => ((x.ID : Int) == y.ID) && (((x.N' : Int) == y.N') && (((x.Text : List UInt8) == y.Text) && (((x.Value : List UInt8) == y.Value) && true)))) (fun _ _ => Z3h) hab ha (fun N n i h h' => ?_) (fun N n => ?_)
 ·show cond (Q3 .lss (i : Int) ((Q8 Qc.cells a).length : Int)) ((idx a (i : Int)).bind _) _ = _;rw [Q5, Ql, decide_eq_true (by omega), Qp h, Qp h']; rfl
 show cond (Q3 .lss (a.length : Int) ((Q8 Qc.cells a).length : Int)) _ _ = _;rw [Q5, Ql, decide_eq_false (by omega)]; rfl
theorem Qln (a b : List Qc) (ha : a.length ≤ maxLen) : TotP (fun N => Q5k N a b) (fun v => v = true ↔ a = b) := by
 unfold Q5k;rw [Q5, Q5, Q6n];refine TotP.cond (fun h => .ret ⟨fun h => (by cases h), fun e => ?_⟩) (fun h => ?_)
 ·have := of_decide_eq_true h; subst e; exact absurd rfl this
 have h := of_decide_eq_false h
 have hab : a.length = b.length := by omega
 refine Qk3 (L := fun N n i => Gp N a b n i) (eq := fun x y => ((x.ID : Int) == y.ID) && (((x.N' : Int) == y.N') && (((x.Text : List UInt8) == y.Text) && (((x.Value : List UInt8) == y.Value) && true)))) (fun _ _ => Z3h) hab ha (fun N n i h h' => ?_) (fun N n => ?_)
 ·show cond (Q3 .lss (i : Int) ((Q8 Qc.cells a).length : Int)) ((idx a (i : Int)).bind _) _ = _;rw [Q5, Ql, decide_eq_true (by omega), Qp h, Qp h']; rfl
 show cond (Q3 .lss (a.length : Int) ((Q8 Qc.cells a).length : Int)) _ _ = _;rw [Q5, Ql, decide_eq_false (by omega)]; rfl
theorem Qn0 (a b : List Vi) (ha : a.length ≤ maxLen) : TotP (fun N => Ye N a b) (fun v => v = true ↔ a = b) := by
 unfold Ye;rw [Q5, Q5, Q6n];refine TotP.cond (fun h => .ret ⟨fun h => (by cases h), fun e => ?_⟩) (fun h => ?_)
 ·have := of_decide_eq_true h; subst e; exact absurd rfl this
 have h := of_decide_eq_false h
 have hab : a.length = b.length := by omega
 refine Qk3 (L := fun N n i => Zj N a b n i) (eq := fun x y => ((x.Radius : Int) == y.Radius) && (((x.Node : List UInt8) == y.Node) && true)) (fun _ _ => Zhu) hab ha (fun N n i h h' => ?_) (fun N n => ?_)
 ·show cond (Q3 .lss (i : Int) ((Q8 Vi.cells a).length : Int)) ((idx a (i : Int)).bind _) _ = _;rw [Q5, Ql, decide_eq_true (by omega), Qp h, Qp h']; rfl
 show cond (Q3 .lss (a.length : Int) ((Q8 Vi.cells a).length : Int)) _ _ = _;rw [Q5, Ql, decide_eq_false (by omega)]; rfl
theorem Qh0 (a b : List Qe) (ha : a.length ≤ maxLen) : TotP (fun N => Wt N a b) (fun v => v = true ↔ a = b) := by
 unfold Wt;rw [Q5, Q5, Q6n];refine TotP.cond (fun h => .ret ⟨fun h => (by cases h), fun e => ?_⟩) (fun h => ?_)
 ·have := of_decide_eq_true h; subst e; exact absurd rfl this
 have h := of_decide_eq_false h
 have hab : a.length = b.length := by omega
 refine Qk3 (L := fun N n i => Yn N a b n i) (eq := fun x y => ((x.Topic : List UInt8) == y.Topic) && (((x.QoS : Int) == y.QoS) && (((x.NoLocal : Bool) == y.NoLocal) && (((x.AsPublished : Bool) == y.AsPublished) && (((x.Handling : Int) == y.Handling) && true))))) (fun _ _ => Z11) hab ha (fun N n i h h' => ?_) (fun N n => ?_)
 ·show cond (Q3 .lss (i : Int) ((Q8 Qe.cells a).length : Int)) ((idx a (i : Int)).bind _) _ = _;rw [Q5, Ql, decide_eq_true (by omega), Qp h, Qp h']; rfl
 show cond (Q3 .lss (a.length : Int) ((Q8 Qe.cells a).length : Int)) _ _ = _;rw [Q5, Ql, decide_eq_false (by omega)]; rfl
theorem Qn7 (a b : List Int) (ha : a.length ≤ maxLen) : TotP (fun N => Q06 N a b) (fun v => v = true ↔ a = b) := by
 unfold Q06;rw [Q5, Q5, Q6n];refine TotP.cond (fun h => .ret ⟨fun h => (by cases h), fun e => ?_⟩) (fun h => ?_)
 ·have := of_decide_eq_true h; subst e; exact absurd rfl this
 have h := of_decide_eq_false h
 have hab : a.length = b.length := by omega
 refine Qk3 (L := fun N n i => Vm N a b n i) (eq := fun x y => Q3 .eql x y) (fun x y => by rw [Q8q]; exact decide_eq_true_iff) hab ha (fun N n i h h' => ?_) (fun N n => ?_)
 ·show cond (Q3 .lss (i : Int) ((Q8 (cI .i64) a).length : Int)) ((idx a (i : Int)).bind _) _ = _;rw [Q5, Ql, decide_eq_true (by omega), Qp h, Qp h']; rfl
 show cond (Q3 .lss (a.length : Int) ((Q8 (cI .i64) a).length : Int)) _ _ = _;rw [Q5, Ql, decide_eq_false (by omega)]; rfl
structure Z3s (p : Q9) : Prop where
 codes : p.Codes.length ≤ maxLen
 filters : p.Filters.length ≤ maxLen
 props : p.Props.length ≤ maxLen
 wprops : p.Will.Props.length ≤ maxLen
theorem Qk4 (a b : Q0y) (ha : a.Props.length ≤ maxLen) : TotP (fun N => Q0e N a b) (fun v => v = true ↔ a = b) := by
 obtain ⟨t, p, q, r, l⟩ := a; obtain ⟨t', p', q', r', l'⟩ := b;unfold Q0e;dsimp only;rw [Qb6, Qb6, Q8q];refine TotP.cond (fun h1 => ?_) (fun h1 => .ret ⟨fun h => (by cases h), fun e => ?_⟩)
 ·refine TotP.cond (fun h2 => ?_) (fun h2 => .ret ⟨fun h => (by cases h), fun e => ?_⟩)
  ·refine TotP.cond (fun h3 => ?_) (fun h3 => .ret ⟨fun h => (by cases h), fun e => ?_⟩)
   ·refine TotP.cond (fun h4 => ?_) (fun h4 => .ret ⟨fun h => (by cases h), fun e => ?_⟩)
    ·refine TotP.bind (Qe1 l l' ha) (fun v hv => .ret ?_);rw [hv];have h1 := of_decide_eq_true h1; have h2 := of_decide_eq_true h2; have h3 := of_decide_eq_true h3; have h4 := eq_of_beq h4;subst h1 h2 h3 h4;simp
    injection e with _ _ _ e _; subst e; simp at h4
   injection e with _ _ e _ _; exact absurd e (of_decide_eq_false h3)
  injection e with _ e _ _ _; exact absurd e (of_decide_eq_false h2)
 injection e with e _ _ _ _; exact absurd e (of_decide_eq_false h1)
theorem Qds (a b : Q9) (ha : Z3s a) : TotP (fun N => Za N a b) (fun v => v = true ↔ a = b) := by
 unfold Za;refine TotP.bindE (.of fun N => rfl) ?_;refine TotP.bindE (.of fun N => rfl) ?_;refine TotP.cond (fun h1 => ?_) (fun h1 => .ret ⟨fun h => (by cases h), fun e => ?_⟩)
 ·refine TotP.bind (Qk4 a.Will b.Will ha.wprops) (fun v2 h2 => ?_);refine TotP.cond (fun e2 => ?_) (fun e2 => .ret ⟨fun h => (by cases h), fun e => ?_⟩)
  ·refine TotP.bind (Qn7 a.Codes b.Codes ha.codes) (fun v3 h3 => ?_);refine TotP.cond (fun e3 => ?_) (fun e3 => .ret ⟨fun h => (by cases h), fun e => ?_⟩)
   ·refine TotP.bind (Qh0 a.Filters b.Filters ha.filters) (fun v4 h4 => ?_);refine TotP.cond (fun e4 => ?_) (fun e4 => .ret ⟨fun h => (by cases h), fun e => ?_⟩)
    ·refine TotP.bind (Qe1 a.Props b.Props ha.props) (fun v5 h5 => .ret ?_);rw [h5];have e2 := h2.1 e2; have e3 := h3.1 e3; have e4 := h4.1 e4;obtain ⟨a1, a2, a3, a4, a5, a6, a7, a8, a9, a10, a11, a12, a13, a14, a15, a16, a17, a18, a19, a20, a21⟩ := a;obtain ⟨b1, b2, b3, b4, b5, b6, b7, b8, b9, b10, b11, b12, b13, b14, b15, b16, b17, b18, b19, b20, b21⟩ := b;dsimp only at e2 e3 e4 ⊢;simp at h1;simp [h1, e2, e3, e4]
    subst e; exact absurd (h4.2 rfl) (by rw [e4]; simp)
   subst e; exact absurd (h3.2 rfl) (by rw [e3]; simp)
  subst e; exact absurd (h2.2 rfl) (by rw [e2]; simp)
 subst e; simp at h1
end
end Go.Av
namespace Go.Av
noncomputable section
theorem Q6e (n : Int) (size : Nat) (h0 : 1 ≤ size) (h16 : size ≤ 16) : TotP (fun N => Qo N n (size : Int)) (fun l => l.length = size) := by
 show TotP (fun N => cond (Q3 .leq (size : Int) 0) _ _) _;rw [Q2o];refine TotP.cond (fun h => by have := of_decide_eq_true h; omega) (fun _ => ?_)
 have hm : ifB (decide (16 < (size : Int))) (16 : Int) (size : Int) = (size : Int) := by rw [decide_eq_false (by omega)]; rfl
 rw [hm];refine TotP.chk (by simp only [La, decide_eq_true_eq]; omega) ?_;have := Q8y (L := fun N n' (p : Int × List Int) => Xd N n (size : Int) n' p.1 p.2) (Q := fun l : List UInt8 => l.length = size) (fun p => ∃ i : Nat, p.1 = (i : Int) ∧ i ≤ size ∧ p.2.length = size) (fun p => size - p.1.toNat)
  ?_ (0, List.replicate ((size : Int).toNat) 0) ⟨0, rfl, by omega, by simp⟩
 ·exact this
 rintro ⟨s, l⟩ ⟨i, hs, hi, hl⟩
 simp only at hs hl
 subst hs;show Stp _ _ _ (fun N n' => cond (Q3 .lss (i : Int) (ifB (decide (16 < (size : Int))) 16 (size : Int))) _ _);rw [hm, Ql, Ql];refine Stp.cond (fun h => ?_) (fun h => ?_)
 ·have h := of_decide_eq_true h
  have e1 : wrap .i64 ((i : Int) + 1) = ((i + 1 : Nat) : Int) := by rw [w64 _ (by omega)]; omega
  refine Stp.cond (fun h8 => ?_) (fun h8 => ?_)
  ·have h8 := of_decide_eq_true h8;refine Stp.chk ?_ ?_
   ·rw [w64 (8 * (i : Int)) (by omega)]
    have : i = 0 ∨ i = 1 ∨ i = 2 ∨ i = 3 ∨ i = 4 ∨ i = 5 ∨ i = 6 ∨ i = 7 := by omega
    rcases this with rfl | rfl | rfl | rfl | rfl | rfl | rfl | rfl <;> rfl
   have e2 : wrap .i64 (wrap .i64 ((size : Int) - 1) - (i : Int)) = ((size - 1 - i : Nat) : Int) := by rw [w64 ((size : Int) - 1) (by omega), w64 _ (by omega)]; omega
   rw [e1, e2];refine Stp.idx (Qp (show size - 1 - i < l.length by omega)) ?_;refine Stp.go (L := fun N n' (p : Int × List Int) => Xd N n (size : Int) n' p.1 p.2) (_, _) ⟨⟨i + 1, rfl, by omega, by simp [hl]⟩, ?_⟩;simp only [Lt]; omega
  rw [e1];refine Stp.go (L := fun N n' (p : Int × List Int) => Xd N n (size : Int) n' p.1 p.2) (_, _) ⟨⟨i + 1, rfl, by omega, hl⟩, ?_⟩;simp only [Lt]; omega
 exact Stp.ret (by simp [hl])
theorem Q6h {R : Type} {f : Nat → Option R} {r : R} (h : Tot f r) : Any f := ⟨r, trivial, h⟩
theorem TotP.any {R : Type} {f : Nat → Option R} {Q : R → Prop} (h : TotP f Q) : Any f := h.mono fun _ _ => trivial
theorem Z7x {k : Int} (h : 0 ≤ k ∧ k ≤ 18446744073709551615) : wrap .u64 k = k := IntWalk.u64_in k h
theorem Qx7 (r : Qm) (k : Int) : Any (fun N => Uo N r k) := by
 unfold Uo;rw [Q5o, Q2o];refine TotP.cond (fun h1 => ?_) (fun _ => .ret trivial);refine TotP.cond (fun h2 => ?_) (fun _ => .ret trivial);have h1 := of_decide_eq_true h1; have h2 := of_decide_eq_true h2;exact TotP.chk (by rw [Z7x (by omega), decide_eq_true_eq]; omega) (.ret trivial)
theorem Qrr (r : Qm) (k : Int) (p : Qc) (h1 : p.Text.length ≤ maxLen) : Any (fun N => Q0v N r k p) := by
 refine TotP.bind (Qx7 r k) (fun _ _ => ?_)
 have num : Any (fun N => Je N r p) := by
  unfold Je
  repeat' first
   | exact TotP.ret trivial
   | refine TotP.cond (fun _ => ?_) (fun _ => ?_)
 have hV : ∀ s, Any (fun N => Z5 N s) := fun s => Q6h (Q77 s);have hN : Any (fun N => Zf N p.Text) := Q6h (Q7b _ h1)
 repeat' first
  | exact TotP.ret trivial
  | refine TotP.cond (fun _ => ?_) (fun _ => ?_)
  | refine TotP.bind (by first | exact hV _ | exact hN | exact num) (fun _ _ => ?_)
theorem Qrc (k i : Int) : Any (fun N => Q2f N k i) := by
 unfold Q2f
 repeat' first
  | exact TotP.ret trivial
  | refine TotP.cond (fun _ => ?_) (fun _ => ?_)
theorem Quv (k : Int) (p : Qc) : Tot (fun N => Q0v N ⟨0, 0, 0, 0⟩ k p) 9 := by
 refine .of fun N => ?_
 have e : Uo N ⟨0, 0, 0, 0⟩ k = some false := by
  unfold Uo;rw [Q5o, Q2o]
  by_cases h1 : k ≥ 1
  ·by_cases h2 : k ≤ 16
   ·rw [decide_eq_true h1, decide_eq_true h2]
    have : k = 1 ∨ k = 2 ∨ k = 3 ∨ k = 4 ∨ k = 5 ∨ k = 6 ∨ k = 7 ∨ k = 8 ∨ k = 9 ∨ k = 10 ∨ k = 11 ∨ k = 12 ∨ k = 13 ∨ k = 14 ∨ k = 15 ∨ k = 16 := by omega
    rcases this with rfl | rfl | rfl | rfl | rfl | rfl | rfl | rfl | rfl | rfl | rfl | rfl | rfl | rfl | rfl | rfl <;> rfl
   rw [decide_eq_true h1, decide_eq_false h2]; rfl
  rw [decide_eq_false h1]; rfl
 unfold Q0v;rw [e]; rfl
def Qy8 (k : Int) (l : List Qc) (N n : Nat) (p : Int × List Int × List Int) : Option (List UInt8 × Int) := Zg N k l n p.1 p.2.1 p.2.2
theorem Qrf (k : Int) (l : List Qc) (hl : l.length ≤ 30) (hp : ∀ p ∈ l, p.Text.length ≤ maxLen) (a : List Int) (ha : a.length = 64) : TotP (fun N => Zg N k l N 0 a []) (fun r => r.1.length ≤ 9000000000) := by
 have := Q8y (L := Qy8 k l) (Q := fun r => r.1.length ≤ 9000000000) (fun p => ∃ i : Nat, p.1 = (i : Int) ∧ i ≤ l.length ∧ p.2.1.length = 64 ∧ p.2.2.length ≤ i * 268600000) (fun p => l.length - p.1.toNat)
  ?_ (0, a, []) ⟨0, rfl, by omega, ha, by simp⟩
 ·exact this
 rintro ⟨s, b, o⟩ ⟨i, hs, hi, hb, ho⟩
 simp only at hs hb ho
 subst hs;show Stp _ _ _ (fun N n' => cond (Q3 .lss (i : Int) ((Q8 Qc.cells l).length : Int)) _ _);rw [Q5, Ql];refine Stp.cond (fun h => ?_) (fun h => ?_)
 ·have h := of_decide_eq_true h
  have hi : i < l.length := by omega
  refine Stp.idx (Qp hi) ?_;have hT := hp _ (Mf hi);generalize l[i] = y at hT
  have e1 : wrap .i64 ((i : Int) + 1) = ((i + 1 : Nat) : Int) := by rw [w64 _ (by omega)]; omega
  have go : ∀ (b' o' : List Int), b'.length = 64 → o'.length ≤ (i + 1) * 268600000 → Stp (Qy8 k l) (fun s' => (∃ i : Nat, s'.1 = (i : Int) ∧ i ≤ l.length ∧ s'.2.1.length = 64 ∧ s'.2.2.length ≤ i * 268600000) ∧ l.length - s'.1.toNat < l.length - (i : Int).toNat) (fun r => r.1.length ≤ 9000000000) (fun N n => Zg N k l n (wrap .i64 ((i : Int) + 1)) b' o') := by
   intro b' o' h1 h2;rw [e1];exact Stp.go (L := Qy8 k l) ((i + 1 : Nat), b', o') ⟨⟨i + 1, rfl, by omega, h1, h2⟩, by simp only [Lt]; omega⟩
  show Stp _ _ _ (fun N n => optC (Q7c F_prop_rules_tab y.ID) _ _)
  cases hk : Q7c F_prop_rules_tab y.ID with
  | none =>
   refine Stp.optN ?_;refine Stp.bind (V := (· = 9)) ⟨9, rfl, Quv k y⟩ (fun v hv => ?_);subst hv;exact Stp.cond (fun _ => Stp.ret (by simp)) (fun h => nomatch h)
  | some r =>
   have hid := Qwx hk;obtain ⟨q, hk'⟩ : ∃ q : Nat, y.ID = (q : Int) := ⟨y.ID.toNat, by omega⟩
   have hk64 : q < 64 := by omega
   refine Stp.optS ?_;refine Stp.bind (Qrr r k y hT) (fun v _ => ?_);refine Stp.cond (fun _ => Stp.ret (by simp)) (fun _ => ?_);refine Stp.chk (by rw [hk']; simp only [La, decide_eq_true_eq]; omega) ?_;rw [hk'];refine Stp.idx (Qp (show q < b.length by omega)) ?_;refine Stp.idx (Qp (show q < b.length by omega)) ?_;refine Stp.idx (Qp (show q < (b.set _ _).length by rw [Ns]; omega)) ?_
   have hb' : ∀ x y, (b.set x y).length = 64 := fun x y => by rw [Ns]; exact hb
   have tail : Stp (Qy8 k l) (fun s' => (∃ i : Nat, s'.1 = (i : Int) ∧ i ≤ l.length ∧ s'.2.1.length = 64 ∧ s'.2.2.length ≤ i * 268600000) ∧ l.length - s'.1.toNat < l.length - (i : Int).toNat) (fun r => r.1.length ≤ 9000000000)
     (fun N n => cond (Nat.ble ((o.length + 1 + 4096) * 1) 17592186044416) ((G6 N r.shape y).bind fun v130 =>
      cond (Nat.beq v130.length 0)
      (Zg N k l n (wrap .i64 ((i : Int) + 1)) (b.set (Int.toNat (q : Int)) (wrap .i64 (b[q] + 1))) (o ++ [(wrap .u8 (q : Int))]))
      (cond (Nat.ble (((o.length + 1) + v130.length + 4096) * 1) 17592186044416) (Zg N k l n (wrap .i64 ((i : Int) + 1)) (b.set (Int.toNat (q : Int)) (wrap .i64 (b[q] + 1))) ((o ++ [(wrap .u8 (q : Int))]) ++ (v130.map fun b => (b.toNat : Int)))) none)) none) := by
    refine Stp.chk (by rw [Lk]; omega) ?_;refine Stp.bind (Qt3 _ _) (fun v hv => ?_);refine Stp.cond (fun _ => go _ _ (hb' _ _) (by simp only [Lg, Lj, Ll]; omega)) (fun _ => ?_);refine Stp.chk (by rw [Lk]; omega) ?_;exact go _ _ (hb' _ _) (by simp only [Lg, Lj, Ll, Ls]; omega)
   refine Stp.cond (fun _ => ?_) (fun _ => tail);refine Stp.bind (Qrc _ _) (fun v _ => ?_);exact Stp.cond (fun _ => Stp.ret (by simp)) (fun _ => tail)
 refine Stp.fin ?_
 have vb : TotP (fun N => (Jo N (o.length : Int)).bind fun v169 => cond (Q3 .neq v169.2 0) (some (([] : List UInt8), (4 : Int))) (cond (Nat.ble (v169.1.length + (o.map fun n => UInt8.ofNat n.toNat).length) 4611686018427387904) (some ((v169.1 ++ (o.map fun n => UInt8.ofNat n.toNat)), 0)) none)) (fun r => r.1.length ≤ 9000000000) := by
  refine TotP.bind (Qhs _) (fun v hv => ?_);refine TotP.cond (fun _ => .ret (by simp)) (fun _ => ?_);exact TotP.chk (by rw [Lk, Ls]; omega) (.ret (by simp only [Lg, Ls]; omega))
 refine TotP.idx (Qp (show 22 < b.length by omega)) ?_;refine TotP.cond (fun _ => ?_) (fun _ => vb);refine TotP.idx (Qp (show 21 < b.length by omega)) ?_;exact TotP.cond (fun _ => .ret (by simp)) (fun _ => vb)
structure OkP (l : List Qc) : Prop where
 len : l.length ≤ 30
 txt : ∀ p ∈ l, p.Text.length ≤ maxLen
theorem Q2d (k : Int) (l : List Qc) (h : OkP l) : TotP (fun N => Wm N k l) (fun r => r.1.length ≤ 9000000000) := by
 unfold Wm;exact TotP.cond (fun _ => .ret (by simp)) (fun _ => Qrf k l h.len h.txt _ rfl)
theorem Q9d (k : Int) (l : List Qc) (h : OkP l) : Any (fun N => Zy N k l) := TotP.bind (Q2d k l h) (fun _ _ => .ret trivial)
theorem Qjf (k c : Int) : Any (fun N => G7 N k c) := by
 obtain ⟨w0, w1, w2, w3, e, _⟩ := Qke k;unfold G7 Z3p;rw [e];unfold Z3x;rw [Q5o, Ql];refine TotP.cond (fun h1 => ?_) (fun _ => .ret trivial);refine TotP.cond (fun h2 => ?_) (fun _ => .ret trivial);have h1 := of_decide_eq_true h1; have h2 := of_decide_eq_true h2;have e1 : c.tdiv 64 = c / 64 := Cn h1;have e2 : c.tmod 64 = c % 64 := Int.tmod_eq_emod_of_nonneg h1;rw [e1, e2, w64 _ (by omega)]
 have : c / 64 = 0 ∨ c / 64 = 1 ∨ c / 64 = 2 ∨ c / 64 = 3 := by omega
 have hk : decide (0 ≤ wrap .u64 (c % 64)) = true := by rw [Z7x (by omega), decide_eq_true_eq]; omega
 rcases this with h | h | h | h <;> rw [h] <;> exact TotP.bindE (.of fun _ => rfl) (TotP.chk hk (.ret trivial))
structure Qvh (p : Q9) : Prop where
 l : Z3s p
 props : OkP p.Props
 wprops : OkP p.Will.Props
 topic : p.Topic.length ≤ 2000
 payload : p.Payload.length ≤ 2000
 client : p.Client.length ≤ 2000
 user : p.User.length ≤ 2000
 pass : p.Pass.length ≤ 2000
 wtopic : p.Will.Topic.length ≤ 2000
 wpayload : p.Will.Payload.length ≤ 2000
 codes : p.Codes.length ≤ 30
 filters : p.Filters.length ≤ 30 ∧ ∀ f ∈ p.Filters, f.Topic.length ≤ 2000
theorem ml2 : 2000 ≤ maxLen := by unfold maxLen; decide
section
variable {p : Q9} (h : Qvh p)
include h
theorem Q9l (q : Q9) : Any (fun N => Za N p q) := (Qds p q h.l).any
theorem Qik (k : Int) : Any (fun N => Zy N k p.Props) := Q9d k _ h.props
theorem Qxu (v : Int) : Any (fun N => Q5q N v p) := by
 have hk : ∀ a b, Any (fun N => Q5l N a b) := fun a b => by
  unfold Q5l
  repeat' first
   | exact TotP.ret trivial
   | refine TotP.cond (fun _ => ?_) (fun _ => ?_)
 unfold Q5q
 repeat' first
  | exact TotP.ret trivial
  | refine TotP.cond (fun _ => ?_) (fun _ => ?_)
  | refine TotP.bind (by first | exact hk _ _ | exact Qjf _ _ | exact Q9l h _ | exact Qik h _) (fun _ _ => ?_)
theorem Qw8 (v : Int) : TotP (fun N => Q6t N v p) (fun r => r.1.length ≤ 10000000000) := by
 unfold Q6t;refine TotP.bind (Qxu h v) (fun a _ => ?_);refine TotP.cond (fun _ => .ret (by simp)) (fun _ => ?_);refine TotP.bind (Jk _ _) (fun b hb => ?_);refine TotP.cond (fun _ => ?_) (fun _ => ?_)
 ·refine TotP.bind (Jk _ _) (fun c hc => ?_);refine TotP.chk (by rw [Lk]; omega) ?_;refine TotP.cond (fun _ => ?_) (fun _ => .ret (by simp; omega));refine TotP.bind (Q2d _ _ h.props) (fun d hd => ?_);exact TotP.chk (by rw [Lk]; simp only [Lg]; omega) (.ret (by simp only [Lg]; omega))
 refine TotP.cond (fun _ => ?_) (fun _ => .ret (by dsimp only; omega));refine TotP.bind (Jk _ _) (fun c hc => ?_);refine TotP.chk (by rw [Lk]; omega) ?_;refine TotP.bind (Q2d _ _ h.props) (fun d hd => ?_);exact TotP.chk (by rw [Lk]; simp only [Lg]; omega) (.ret (by simp only [Lg]; omega))
theorem Qxt (v : Int) : Any (fun N => Q0k N v p) := by
 have hs : ∀ a b, Any (fun N => Gs N a b) := fun a b => by
  unfold Gs Wd U3
  repeat' first
   | exact TotP.ret trivial
   | refine TotP.cond (fun _ => ?_) (fun _ => ?_)
   | refine TotP.bindE (.of fun _ => rfl) ?_
 have hk : ∀ a b, Any (fun N => Q0c N a b) := fun a b => by
  unfold Q0c
  repeat' first
   | exact TotP.ret trivial
   | refine TotP.cond (fun _ => ?_) (fun _ => ?_)
   | refine TotP.bind (by first | exact hs _ _) (fun _ _ => ?_)
 unfold Q0k
 repeat' first
  | exact TotP.ret trivial
  | refine TotP.cond (fun _ => ?_) (fun _ => ?_)
  | refine TotP.bind (by first | exact hk _ _ | exact hs _ _ | exact Qjf _ _ | exact Q9l h _ | exact Qik h _) (fun _ _ => ?_)
theorem Qwo (v : Int) : TotP (fun N => Q1p N v p) (fun r => r.1.length ≤ 10000000000) := by
 unfold Q1p;refine TotP.bind (Qxt h v) (fun a _ => ?_);refine TotP.cond (fun _ => .ret (by simp)) (fun _ => ?_);refine TotP.bind (V := fun l => l.length ≤ 10000000000) ?_ (fun b hb => .ret hb);unfold Q3v;refine TotP.bind (Q2d _ _ h.props) (fun d hd => ?_);refine TotP.cond (fun _ => .ret (by simp)) (fun _ => ?_);refine TotP.cond (fun _ => .ret (by simp)) (fun _ => ?_);refine TotP.cond (fun _ => .ret (by simp)) (fun _ => ?_);refine TotP.bind (Jk _ _) (fun b hb => ?_);refine TotP.cond (fun _ => ?_) (fun _ => ?_)
 ·exact TotP.chk (by rw [Lk]; omega) (.ret (by simp only [Lg]; omega))
 exact TotP.cond (fun _ => .ret (by omega)) (fun _ => .ret (by simp))
end
end
end Go.Av
namespace Go.Av
noncomputable section
theorem Qnh : ∀ (l : List UInt8) (c : UInt8) (n : Nat), Qcp l c n ≤ n + l.length
 | [], _, n => Lp _
 | b :: l, c, n => by
  unfold Qcp;split
  ·have := Qnh l c (n + 1); simp only [Lj]; omega
  have := Qnh l c n; simp only [Lj]; omega
theorem Qnv : ∀ (l : List UInt8) (c : UInt8) (i : Nat), Qhw l c i = -1 ∨ ∃ k : Nat, Qhw l c i = (k : Int) ∧ i ≤ k ∧ k < i + l.length
 | [], _, i => .inl rfl
 | b :: l, c, i => by
  unfold Qhw;split
  ·exact .inr ⟨i, rfl, Lp _, by simp⟩
  rcases Qnv l c (i + 1) with h | ⟨k, h1, h2, h3⟩
  ·exact .inl h
  exact .inr ⟨k, h1, by omega, by simp only [Lj]; omega⟩
def Z3o (s : List UInt8) (N n : Nat) (p : List UInt8 × Int × List (List UInt8)) : Option (List (List UInt8)) := W3 N s n p.1 p.2.1 p.2.2
theorem Qrh (s : List UInt8) (hs : s.length ≤ 70000) : TotP (fun N => Q1t N s) (fun l => l.length ≤ 70001 ∧ ∀ x ∈ l, x.length ≤ 70000) := by
 unfold Q1t;refine TotP.cond (fun h => by rw [Qb6] at h; exact absurd (of_decide_eq_true h) (by simp)) (fun _ => ?_);obtain ⟨c, hcd⟩ : ∃ c, Qcp s (UInt8.ofNat (Int.toNat 47)) 0 = c := ⟨_, rfl⟩;have hc := Qnh s (UInt8.ofNat (Int.toNat 47)) 0;rw [hcd] at hc ⊢;have e1 : wrap .i64 ((s.length : Int) + 1) = (s.length : Int) + 1 := w64 _ (by omega);have e2 : wrap .i64 ((c : Int) + 1) = (c : Int) + 1 := w64 _ (by omega)
 have hn : (ifB (decide (wrap .i64 ((s.length : Int) + 1) < wrap .i64 ((c : Int) + 1))) (wrap .i64 ((s.length : Int) + 1)) (wrap .i64 ((c : Int) + 1))) = ((c + 1 : Nat) : Int) := by
  rw [e1, e2, decide_eq_false (by omega)]; show (c : Int) + 1 = _; omega
 have hm : wrap .i64 (((c + 1 : Nat) : Int) - 1) = (c : Int) := by rw [w64 _ (by omega)]; omega
 rw [hn];refine TotP.chk (by simp only [La, decide_eq_true_eq]; omega) ?_;have := Q8y (L := Z3o s) (Q := fun l => l.length ≤ 70001 ∧ ∀ x ∈ l, x.length ≤ 70000) (fun p => p.1.length ≤ s.length ∧ ∃ i : Nat, p.2.1 = (i : Int) ∧ i ≤ c ∧ p.2.2.length = c + 1 ∧ ∀ x ∈ p.2.2, x.length ≤ 70000) (fun p => c - p.2.1.toNat)
  ?_ (s, 0, List.replicate (((c + 1 : Nat) : Int).toNat) []) ⟨Lp _, 0, rfl, by omega, by simp, fun x hx => by simp at hx; simp [hx]⟩
 ·exact this
 rintro ⟨t, j, l⟩ ⟨ht, i, hi, hic, hl, hx⟩
 simp only at ht hi hl hx
 subst hi
 have hset : ∀ (y : List UInt8), y.length ≤ 70000 → ∀ x ∈ l.set (Int.toNat (i : Int)) y, x.length ≤ 70000 := fun y hy x hxm => by
  rcases List.mem_or_eq_of_mem_set hxm with h | h
  ·exact hx x h
  rw [h]; exact hy
 have ei : wrap .i64 ((i : Int) + 1) = ((i + 1 : Nat) : Int) := by rw [w64 _ (by omega)]; omega
 have fin : Stp (Z3o s) (fun p => (p.1.length ≤ s.length ∧ ∃ i : Nat, p.2.1 = (i : Int) ∧ i ≤ c ∧ p.2.2.length = c + 1 ∧ ∀ x ∈ p.2.2, x.length ≤ 70000) ∧ c - p.2.1.toNat < c - (i : Int).toNat) (fun l => l.length ≤ 70001 ∧ ∀ x ∈ l, x.length ≤ 70000)
   (fun (_ : Nat) (_ : Nat) => (idx (l : List (List UInt8)) (i : Int)).bind fun _ => cond (decide (0 ≤ (wrap .i64 ((i : Int) + 1)))) (cond (Nat.ble 0 ((wrap .i64 ((i : Int) + 1)).toNat) && Nat.ble ((wrap .i64 ((i : Int) + 1)).toNat) l.length) (some ((((l : List (List UInt8)).set (Int.toNat (i : Int)) t) : List (List UInt8)).take ((wrap .i64 ((i : Int) + 1)).toNat))) none) none) := by
  rw [ei];refine Stp.idx (Qp (show i < l.length by omega)) ?_;refine Stp.chk (by rw [decide_eq_true_eq]; omega) ?_;refine Stp.chk (by simp only [La, Lk, Lt]; omega) ?_;exact Stp.ret ⟨by rw [Lz, Ns]; omega, fun x hxm => hset t (by omega) x (Cb hxm)⟩
 show Stp _ _ _ (fun N n => cond (Q3 .lss (i : Int) (wrap .i64 ((ifB (decide (wrap .i64 ((s.length : Int) + 1) < wrap .i64 ((Qcp s (UInt8.ofNat (Int.toNat 47)) 0 : Int) + 1))) (wrap .i64 ((s.length : Int) + 1)) (wrap .i64 ((Qcp s (UInt8.ofNat (Int.toNat 47)) 0 : Int) + 1))) - 1))) _ _);rw [hcd, hn, hm, Ql];refine Stp.cond (fun h => ?_) (fun _ => fin);have h := of_decide_eq_true h
 have go : ∀ (t' y : List UInt8), t'.length ≤ s.length → y.length ≤ 70000 → Stp (Z3o s) (fun p => (p.1.length ≤ s.length ∧ ∃ i : Nat, p.2.1 = (i : Int) ∧ i ≤ c ∧ p.2.2.length = c + 1 ∧ ∀ x ∈ p.2.2, x.length ≤ 70000) ∧ c - p.2.1.toNat < c - (i : Int).toNat) (fun l => l.length ≤ 70001 ∧ ∀ x ∈ l, x.length ≤ 70000)
   (fun N n => W3 N s n t' (wrap .i64 ((i : Int) + 1)) (l.set (Int.toNat (i : Int)) y)) := fun t' y h1 h2 => by
  rw [ei];exact Stp.go (L := Z3o s) (t', ((i + 1 : Nat) : Int), l.set (Int.toNat (i : Int)) y) ⟨⟨h1, i + 1, rfl, by omega, by rw [Ns]; exact hl, hset y h2⟩, by simp only [Lt]; omega⟩
 refine Stp.cond (fun h2 => ?_) (fun _ => ?_)
 ·rw [Qb6] at h2;have h2 := of_decide_eq_true h2;refine Stp.idx (Qp (show i < l.length by omega)) ?_;refine Stp.chk (by rw [← h2]; rfl) ?_;exact go _ _ (by simp only [Ma, Lz]; omega) (by simp)
 refine Stp.bind (f := fun N => Qt N t 47) (V := fun v => v = Qhw t (UInt8.ofNat (Int.toNat 47)) 0) ⟨_, rfl, .of fun _ => rfl⟩ (fun v hv => ?_);rw [Ql]
 rcases Qnv t (UInt8.ofNat (Int.toNat 47)) 0 with h3 | ⟨k, h3, _, h4⟩
 ·rw [hv, h3];exact Stp.cond (fun _ => fin) (fun h => nomatch h)
 rw [hv, h3, decide_eq_false (by omega)]
 have k0 : wrap .i64 ((k : Int) + 0) = (k : Int) := by rw [w64 _ (by omega)]; omega
 have k1 : wrap .i64 ((k : Int) + 1) = ((k + 1 : Nat) : Int) := by rw [w64 _ (by omega)]; omega
 refine Stp.cond (fun h => nomatch h) (fun _ => ?_);rw [k0, k1];refine Stp.chk (by rw [decide_eq_true_eq]; omega) ?_;refine Stp.chk (by simp only [La, Lk, Lt]; omega) ?_;refine Stp.idx (Qp (show i < l.length by omega)) ?_;refine Stp.chk (by rw [decide_eq_true_eq]; omega) ?_;refine Stp.chk (by simp only [La, Lk, Lt]; omega) ?_;exact go _ _ (by simp only [Ma, Lz]; omega) (by simp only [Ma, Lz]; omega)
end
end Go.Av
namespace Go.Av
noncomputable section
theorem Qrz (s : List UInt8) (hs : s.length ≤ 70000) : TotP (fun N => J3 N s) (fun l => l.length ≤ 80000) := by
 refine TotP.bind (Jk _ _) (fun v hv => ?_);exact TotP.chk (by rw [Lk]; omega) (.ret (by simp only [Lg]; omega))
theorem Qpf (s : List UInt8) (hs : s.length ≤ 2000) : TotP (fun N => Gt N s) (fun r => r.1.length ≤ 80000) := by
 unfold Gt;refine TotP.bindE (Q77 s) ?_;refine TotP.cond (fun _ => .ret (by simp)) (fun _ => ?_);exact TotP.bind (Qrz s (by omega)) (fun v hv => .ret hv)
theorem ml7 : 70000 ≤ maxLen := by unfold maxLen; decide
theorem Qrv (l : List (List UInt8)) (h1 : l.length ≤ 70001) (h2 : ∀ x ∈ l, x.length ≤ 70000) : Any (fun N => Q1u N l) := by
 have hm := ml7
 have hw : ∀ s, Any (fun N => Q0s N s) := fun s => by
  unfold Q0s
  repeat' first
   | exact TotP.ret trivial
   | refine TotP.cond (fun _ => ?_) (fun _ => ?_)
 unfold Q1u;refine Q42 (L := fun N n i => Zd N l n i) l.length (fun _ => True) (fun i hi _ => ?_) (fun _ => ?_) trivial
 ·show Stp _ _ _ (fun N n => cond (Q3 .lss (i : Int) ((Q8 cS l).length : Int)) _ _);rw [Q5, Ql];refine Stp.cond (fun _ => ?_) (fun _ => Stp.ret trivial);refine Stp.idx (Qp hi) ?_;have hx := h2 _ (Mf hi)
  have hg : Stp (fun N n i => Zd N l n i) (fun s => s = ((i + 1 : Nat) : Int) ∧ True) (fun _ => True) (fun N n => Zd N l n (wrap .i64 ((i : Int) + 1))) := by
   rw [w64 _ (by omega)];exact Stp.go (L := fun N n i => Zd N l n i) _ ⟨by omega, trivial⟩
  have hc : Any (fun N => Zw N l[i]) := Q6h (Qe2 _ (by omega))
  have ht : Stp (fun N n i => Zd N l n i) (fun s => s = ((i + 1 : Nat) : Int) ∧ True) (fun _ => True) (fun N n => (Q0s N l[i]).bind fun v => cond (!v) ((Zw N l[i]).bind fun w => cond w (some false) (Zd N l n (wrap .i64 ((i : Int) + 1)))) (Zd N l n (wrap .i64 ((i : Int) + 1)))) := by
   refine Stp.bind (hw _) (fun _ _ => Stp.cond (fun _ => ?_) (fun _ => hg));exact Stp.bind hc (fun _ _ => Stp.cond (fun _ => Stp.ret trivial) (fun _ => hg))
  exact Stp.cond (fun _ => Stp.cond (fun _ => Stp.ret trivial) (fun _ => ht)) (fun _ => ht)
 show Stp _ _ _ (fun N n => cond (Q3 .lss (l.length : Int) ((Q8 cS l).length : Int)) _ _);rw [Q5, Ql, decide_eq_false (by omega)];exact Stp.ret trivial
theorem Qcu (s : List UInt8) (hs : s.length ≤ 70000) : Any (fun N => Xr N s) := by
 unfold Xr;refine TotP.bindE (Qo1 s) ?_;refine TotP.cond (fun _ => ?_) (fun _ => .ret trivial);refine TotP.bind (Qrh s hs) (fun l hl => ?_);exact TotP.bind (Qrv l hl.1 hl.2) (fun _ _ => .ret trivial)
theorem Qzy (s t : List UInt8) : TotP (fun N => Ui N s t) (fun r => r.1.length ≤ s.length) := by
 unfold Ui;refine TotP.bind (V := fun r => r.1.length ≤ s.length) ?_ (fun v hv => .ret hv);unfold X4;refine TotP.bind (V := fun v => v = true → t.length ≤ s.length) ?_ (fun v hv => ?_)
 ·unfold X3;rw [Q5o];refine TotP.cond (fun h => ?_) (fun _ => .ret (fun h => nomatch h));have h := of_decide_eq_true h;exact TotP.chk (by simp only [La, Lk]; omega) (.ret (fun _ => by omega))
 refine TotP.cond (fun _ => .ret (Lp _)) (fun h => ?_);have h := hv (by simpa using h);exact TotP.chk (by simp only [La, Lk]; omega) (.ret (by simp only [Ma, Lz]; omega))
theorem Qs1 (s : List UInt8) (hs : s.length ≤ 70000) : Any (fun N => Q1s N s) := by
 have hm := ml7;unfold Q1s;refine TotP.bind (Qzy _ _) (fun v hv => ?_);obtain ⟨t, b⟩ := v;dsimp only at hv ⊢;have hN : ∀ a b, Any (fun N => Zf N ((t.take a).drop b)) := fun a b => Q6h (Q7b _ (by simp only [Ma, Lz]; omega));have hF : ∀ a b, Any (fun N => Xr N ((t.take a).drop b)) := fun a b => Qcu _ (by simp only [Ma, Lz]; omega);have hV : ∀ s, Any (fun N => Z5 N s) := fun s => Q6h (Q77 s);rw [Qb6];refine TotP.cond (fun h => ?_) (fun _ => ?_)
 ·have h := of_decide_eq_true h;refine TotP.chk (by rw [← h]; rfl) ?_
  repeat' first
   | exact TotP.ret trivial
   | refine TotP.cond (fun _ => ?_) (fun _ => ?_)
   | refine TotP.bind (by first | exact hV _ | exact hN _ _ | exact hF _ _) (fun _ _ => ?_)
 refine TotP.bind (f := fun N => Qt N t 47) (V := fun v => v = Qhw t (UInt8.ofNat (Int.toNat 47)) 0) ⟨_, rfl, .of fun _ => rfl⟩ (fun v hv2 => ?_);rw [Q5o]
 rcases Qnv t (UInt8.ofNat (Int.toNat 47)) 0 with h3 | ⟨k, h3, _, h4⟩
 ·rw [hv2, h3];exact TotP.cond (fun h => absurd (of_decide_eq_true h) (by omega)) (fun _ => TotP.cond (fun _ => .ret trivial) (fun _ => .ret trivial))
 rw [hv2, h3]
 have k1 : wrap .i64 ((k : Int) + 1) = ((k + 1 : Nat) : Int) := by rw [w64 _ (by omega)]; omega
 rw [k1];refine TotP.cond (fun _ => ?_) (fun _ => ?_)
 ·refine TotP.chk (by rw [decide_eq_true_eq]; omega) ?_;refine TotP.chk (by simp only [La, Lk, Lt]; omega) ?_;refine TotP.chk (by rw [decide_eq_true_eq]; omega) ?_;refine TotP.chk (by simp only [La, Lk, Lt]; omega) ?_
  repeat' first
   | exact TotP.ret trivial
   | refine TotP.cond (fun _ => ?_) (fun _ => ?_)
   | refine TotP.bind (by first | exact hV _ | exact hN _ _ | exact hF _ _) (fun _ _ => ?_)
 exact TotP.cond (fun _ => .ret trivial) (fun _ => .ret trivial)
theorem Qye (l : List Qc) (hl : l.length ≤ 30) (id : Int) : Any (fun N => Q54 N l id) := by
 unfold Q54;refine Q42 (L := fun N n i => Gb N l id n i) l.length (fun _ => True) (fun i hi _ => ?_) (fun _ => ?_) trivial
 ·show Stp _ _ _ (fun N n => cond (Q3 .lss (i : Int) ((Q8 Qc.cells l).length : Int)) _ _);refine Stp.cond (fun _ => ?_) (fun _ => Stp.ret trivial);refine Stp.idx (Qp hi) ?_;refine Stp.cond (fun _ => Stp.ret trivial) (fun _ => ?_);rw [w64 _ (by omega)];exact Stp.go (L := fun N n i => Gb N l id n i) _ ⟨by omega, trivial⟩
 show Stp _ _ _ (fun N n => cond (Q3 .lss (l.length : Int) ((Q8 Qc.cells l).length : Int)) _ _);rw [Q5, Ql, decide_eq_false (by omega)];exact Stp.ret trivial
section
variable {p : Q9} (h : Qvh p)
include h
theorem Qwm (v : Int) : Any (fun N => Gz N v p) := by
 have hm := ml2;have ht := h.topic
 have h1 : Any (fun N => Q0r N v) := by
  unfold Q0r
  repeat' first
   | exact TotP.ret trivial
   | refine TotP.cond (fun _ => ?_) (fun _ => ?_)
 have h2 : ∀ b e, Any (fun N => Wb N b e) := fun b e => by
  unfold Wb
  repeat' first
   | exact TotP.ret trivial
   | refine TotP.cond (fun _ => ?_) (fun _ => ?_)
 have h3 : Any (fun N => Q29 N v p) := by
  unfold Q29 Q6b Q65 Q67
  have a1 : Any (fun N => cond (Q3 .eql v 4) (some true) (some (Q3 .eql v 5))) := by
   repeat' first
    | exact TotP.ret trivial
    | refine TotP.cond (fun _ => ?_) (fun _ => ?_)
  have a2 : Any (fun (N : Nat) => cond (Q3 .eql v 5) (cond (Q3 .geq p.Kind 1) (some (Q3 .leq p.Kind 15)) (some false)) (cond (Q3 .geq p.Kind 1) (some (Q3 .leq p.Kind 14)) (some false))) := by
   repeat' first
    | exact TotP.ret trivial
    | refine TotP.cond (fun _ => ?_) (fun _ => ?_)
  have a3 : Any (fun (N : Nat) => cond (Q3 .eql p.Kind 6) (some (2 : Int)) (cond (Q3 .eql p.Kind 8) (some 2) (cond (Q3 .eql p.Kind 10) (some 2) (some 0)))) := by
   repeat' first
    | exact TotP.ret trivial
    | refine TotP.cond (fun _ => ?_) (fun _ => ?_)
  repeat' first
   | exact TotP.ret trivial
   | refine TotP.cond (fun _ => ?_) (fun _ => ?_)
   | refine TotP.bind (by first | exact a1 | exact a2 | exact a3) (fun _ _ => ?_)
 have h4 : Any (fun N => J1 N v p) := by
  unfold J1
  repeat' first
   | exact TotP.ret trivial
   | refine TotP.cond (fun _ => ?_) (fun _ => ?_)
   | refine TotP.bind (by first | exact Q9l h _) (fun _ _ => ?_)
 have h5 : Any (fun N => Ju N v p) := by
  unfold Ju Q2k;have b1 : Any (fun N => (Q54 N p.Props 35).bind fun v1 => some ((wrap .i64 v1.1.N'), v1.2)) := TotP.bind (Qye _ h.props.len _) (fun _ _ => .ret trivial);have b2 : Any (fun N => Zf N p.Topic) := Q6h (Q7b _ (by omega))
  repeat' first
   | exact TotP.ret trivial
   | refine TotP.cond (fun _ => ?_) (fun _ => ?_)
   | refine TotP.bind (by first | exact b1 | exact b2) (fun _ _ => ?_)
 unfold Gz
 repeat' first
  | exact TotP.ret trivial
  | refine TotP.cond (fun _ => ?_) (fun _ => ?_)
  | refine TotP.bind (by first | exact h1 | exact h2 _ _ | exact h3 | exact h4 | exact h5 | exact Qik h _) (fun _ _ => ?_)
theorem Qwb (v : Int) : TotP (fun N => Q1k N v p) (fun r => r.1.length ≤ 10000000000) := by
 have ht := h.topic; have hp := h.payload;unfold Q1k;refine TotP.bind (Qwm h v) (fun a _ => ?_);refine TotP.cond (fun _ => .ret (by simp)) (fun _ => ?_);refine TotP.bind (Qpf _ h.topic) (fun b hb => ?_);refine TotP.cond (fun _ => ?_) (fun _ => ?_)
 ·refine TotP.bind (Jk _ _) (fun c hc => ?_);refine TotP.chk (by rw [Lk]; omega) ?_;refine TotP.cond (fun _ => ?_) (fun _ => ?_)
  ·refine TotP.bind (Q2d _ _ h.props) (fun d hd => ?_);refine TotP.chk (by rw [Lk]; simp only [Lg]; omega) ?_;exact TotP.chk (by rw [Lk]; simp only [Lg]; omega) (.ret (by simp only [Lg]; omega))
  exact TotP.chk (by rw [Lk]; simp only [Lg]; omega) (.ret (by simp only [Lg]; omega))
 refine TotP.cond (fun _ => ?_) (fun _ => ?_)
 ·refine TotP.bind (Q2d _ _ h.props) (fun d hd => ?_);refine TotP.chk (by rw [Lk]; omega) ?_;exact TotP.chk (by rw [Lk]; simp only [Lg]; omega) (.ret (by simp only [Lg]; omega))
 exact TotP.chk (by rw [Lk]; omega) (.ret (by simp only [Lg]; omega))
end
end
end Go.Av
namespace Go.Av
noncomputable section
theorem Qyh : ∀ l : List (List UInt8), (l.intersperse []).flatten = l.flatten
 | [] => rfl
 | [_] => rfl
 | x :: y :: zs => by
  rw [List.intersperse_cons_cons];show x ++ ([] ++ ((y :: zs).intersperse []).flatten) = x ++ (y :: zs).flatten;rw [Qyh (y :: zs)]; rfl
theorem Z54 (l : List (List UInt8)) : Go.Lib.join l [] = l.flatten := Qyh l
theorem Q3x (K : Nat) (l : List (List UInt8)) (h1 : l.length ≤ 10) (hK : K ≤ 100000000000) (h2 : l.flatten.length ≤ K) : TotP (fun N => Xi N l) (fun r => r.length ≤ K) := by
 show TotP (fun N => Option.bind (cond _ (some _) none) _) _;rw [Z54]
 have : (Nat.ble l.length 140737488355328 && Nat.ble l.flatten.length 140737488355328) = true := by
  rw [La, Lk, Lk]; omega
 rw [this];exact .ret h2
theorem Q2w (s : List UInt8) : TotP (fun N => Xc N s) (fun r => r.length ≤ 65551) := TotP.bind (Qdf s) (fun _ h => .ret h)
theorem Qm2 (v k : Int) (l : List Qc) (h : OkP l) : TotP (fun N => Gr N v k l) (fun r => r.length ≤ 9000000000) := by
 unfold Gr;exact TotP.cond (fun _ => .ret (by simp)) (fun _ => TotP.bind (Q2d k l h) (fun _ h => .ret h))
theorem Qsz (p : Q9) : Any (fun N => Q01 N p) := by
 unfold Q01;refine TotP.cond (fun _ => .ret trivial) (fun _ => ?_);refine Q8y (L := fun N n (q : Int × Int) => Yd N p n q.1 q.2) (Q := fun _ => True) (fun q => ∃ i : Nat, q.2 = (i : Int) ∧ i ≤ 5) (fun q => 5 - q.2.toNat) ?_ ((Gy .i64 (Jq .i64 p.Will.QoS 3) 3), 0) ⟨0, rfl, by omega⟩
 rintro ⟨o, s⟩ ⟨i, hs, hi⟩
 simp only at hs
 subst hs;show Stp _ _ _ (fun N n => cond (Q3 .lss (i : Int) 5) _ _);rw [Ql];refine Stp.cond (fun h => ?_) (fun _ => Stp.ret trivial);have h := of_decide_eq_true h
 have e1 : wrap .i64 ((i : Int) + 1) = ((i + 1 : Nat) : Int) := by rw [w64 _ (by omega)]; omega
 rw [e1]
 have g : ∀ o' : Int, Stp (fun N n (q : Int × Int) => Yd N p n q.1 q.2) (fun s' => (∃ i : Nat, s'.2 = (i : Int) ∧ i ≤ 5) ∧ 5 - s'.2.toNat < 5 - (i : Int).toNat) (fun _ => True) (fun N n => Yd N p n o' ((i + 1 : Nat) : Int)) := fun o' =>
  Stp.go (L := fun N n (q : Int × Int) => Yd N p n q.1 q.2) (o', ((i + 1 : Nat) : Int)) ⟨⟨i + 1, rfl, by omega⟩, by simp only [Lt]; omega⟩
 refine Stp.idx (Qp (by show i < 5; omega)) ?_;refine Stp.cond (fun _ => ?_) (fun _ => ?_)
 ·exact g _
 exact g _
section
variable {p : Q9} (h : Qvh p)
include h
theorem Qx1 (v : Int) : Any (fun N => Q0j N v p) := by
 have hm := ml2;have ht := h.wtopic
 have h1 : Any (fun N => Q0p N v) := by
  unfold Q0p
  repeat' first
   | exact TotP.ret trivial
   | refine TotP.cond (fun _ => ?_) (fun _ => ?_)
 have h2 : Any (fun N => Q1n N p.Kind) := by
  unfold Q1n
  repeat' first
   | exact TotP.ret trivial
   | refine TotP.cond (fun _ => ?_) (fun _ => ?_)
 have h3 : Any (fun N => Q07 N p) := by
  unfold Q07
  repeat' first
   | exact TotP.ret trivial
   | refine TotP.cond (fun _ => ?_) (fun _ => ?_)
   | refine TotP.bind (by first | exact Q9l h _) (fun _ _ => ?_)
 have h4 : Any (fun N => Q0d N p.Code) := by
  unfold Q0d
  repeat' first
   | exact TotP.ret trivial
   | refine TotP.cond (fun _ => ?_) (fun _ => ?_)
 have h5 : Any (fun N => Gk N v p) := by
  unfold Gk
  repeat' first
   | exact TotP.ret trivial
   | refine TotP.cond (fun _ => ?_) (fun _ => ?_)
   | refine TotP.bind (by first | exact Qjf _ _ | exact h4) (fun _ _ => ?_)
 have hV : ∀ s, Any (fun N => Z5 N s) := fun s => Q6h (Q77 s);have hN : Any (fun N => Zf N p.Will.Topic) := Q6h (Q7b _ (by omega));unfold Q0j
 repeat' first
  | exact TotP.ret trivial
  | refine TotP.cond (fun _ => ?_) (fun _ => ?_)
  | refine TotP.bind (by first | exact h1 | exact h2 | exact h3 | exact h5 | exact hV _ | exact hN | exact Q9d _ _ h.props | exact Q9d _ _ h.wprops) (fun _ _ => ?_)
theorem Qvp (v : Int) : TotP (fun N => Q1j N v p) (fun r => r.1.length ≤ 30000000000) := by
 unfold Q1j;refine TotP.bind (Qx1 h v) (fun a _ => ?_);refine TotP.cond (fun _ => .ret (by simp)) (fun _ => ?_);refine TotP.bind (Qm2 v p.Kind _ h.props) (fun t ht => ?_);refine TotP.cond (fun _ => ?_) (fun _ => ?_)
 ·refine TotP.cond (fun _ => ?_) (fun _ => ?_)
  ·refine TotP.bind (Jk _ _) (fun b hb => ?_);exact TotP.bind (Q3x 30000000000 _ (by simp) (by omega) (by simp only [Mh, Na, Lg, Lj, Ll]; omega)) (fun c hc => .ret hc)
  refine TotP.bind (Jk _ _) (fun b hb => ?_);exact TotP.bind (Q3x 30000000000 _ (by simp) (by omega) (by simp only [Mh, Na, Lg, Lj, Ll]; omega)) (fun c hc => .ret hc)
 refine TotP.bind (Jk _ _) (fun b hb => ?_);refine TotP.bind (Qsz p) (fun f _ => ?_);refine TotP.bind (Jk _ _) (fun c hc => ?_);refine TotP.bind (Jk _ _) (fun d hd => ?_);refine TotP.bind (Q2w _) (fun e he => ?_);refine TotP.bind (Q3x 10000000000 _ (by simp) (by omega) (by simp only [Mh, Na, Lg, Lj, Ll]; omega)) (fun x hx => ?_);refine TotP.cond (fun _ => ?_) (fun _ => ?_)
 ·refine TotP.bind (Qm2 v 16 _ h.wprops) (fun b2 hb2 => ?_);refine TotP.bind (Q2w _) (fun c2 hc2 => ?_);refine TotP.bind (Q2w _) (fun d2 hd2 => ?_);refine TotP.bind (Q3x 20000000000 _ (by simp) (by omega) (by simp only [Mh, Na, Lg, Lj, Ll]; omega)) (fun y hy => ?_);refine TotP.cond (fun _ => ?_) (fun _ => ?_)
  ·refine TotP.bind (Q2w _) (fun b3 hb3 => ?_);refine TotP.bind (Q3x 20100000000 _ (by simp) (by omega) (by simp only [Mh, Na, Lg, Lj, Ll]; omega)) (fun z hz => ?_);refine TotP.cond (fun _ => ?_) (fun _ => .ret (by dsimp only; omega));refine TotP.bind (Q2w _) (fun b4 hb4 => ?_);exact TotP.bind (Q3x 30000000000 _ (by simp) (by omega) (by simp only [Mh, Na, Lg, Lj, Ll]; omega)) (fun c hc => .ret hc)
  refine TotP.cond (fun _ => ?_) (fun _ => .ret (by dsimp only; omega));refine TotP.bind (Q2w _) (fun b4 hb4 => ?_);exact TotP.bind (Q3x 30000000000 _ (by simp) (by omega) (by simp only [Mh, Na, Lg, Lj, Ll]; omega)) (fun c hc => .ret hc)
 refine TotP.cond (fun _ => ?_) (fun _ => ?_)
 ·refine TotP.bind (Q2w _) (fun b3 hb3 => ?_);refine TotP.bind (Q3x 20100000000 _ (by simp) (by omega) (by simp only [Mh, Na, Lg, Lj, Ll]; omega)) (fun z hz => ?_);refine TotP.cond (fun _ => ?_) (fun _ => .ret (by dsimp only; omega));refine TotP.bind (Q2w _) (fun b4 hb4 => ?_);exact TotP.bind (Q3x 30000000000 _ (by simp) (by omega) (by simp only [Mh, Na, Lg, Lj, Ll]; omega)) (fun c hc => .ret hc)
 refine TotP.cond (fun _ => ?_) (fun _ => .ret (by dsimp only; omega));refine TotP.bind (Q2w _) (fun b4 hb4 => ?_);exact TotP.bind (Q3x 30000000000 _ (by simp) (by omega) (by simp only [Mh, Na, Lg, Lj, Ll]; omega)) (fun c hc => .ret hc)
end
end
end Go.Av
namespace Go.Av
noncomputable section
section
variable {p : Q9} (h : Qvh p)
include h
theorem Qvu (v : Int) : Any (fun N => Ja N v p) := by
 have h1 : Any (fun N => Wz N p.Kind) := by
  unfold Wz
  repeat' first
   | exact TotP.ret trivial
   | refine TotP.cond (fun _ => ?_) (fun _ => ?_)
 have h2 : Any (fun N => Vs N v p.Kind) := by
  unfold Vs
  repeat' first
   | exact TotP.ret trivial
   | refine TotP.cond (fun _ => ?_) (fun _ => ?_)
 unfold Ja
 repeat' first
  | exact TotP.ret trivial
  | refine TotP.cond (fun _ => ?_) (fun _ => ?_)
  | refine TotP.bind (by first | exact h1 | exact h2 | exact Q9l h _) (fun _ _ => ?_)
end
theorem Qx5 (v k : Int) (f : Qe) (hf : f.Topic.length ≤ 2000) : Any (fun N => Uq N v k f) := by
 have h1 : ∀ n, Any (fun N => V4 N n) := fun n => by
  unfold V4
  repeat' first
   | exact TotP.ret trivial
   | refine TotP.cond (fun _ => ?_) (fun _ => ?_)
 unfold Uq
 repeat' first
  | exact TotP.ret trivial
  | refine TotP.cond (fun _ => ?_) (fun _ => ?_)
  | refine TotP.bind (by first | exact h1 _ | exact Qs1 _ (by omega)) (fun _ _ => ?_)
theorem Qwu (v k c : Int) : Any (fun N => Um N v k c) := by
 have h1 : Any (fun N => Q1m N c) := by
  unfold Q1m
  repeat' first
   | exact TotP.ret trivial
   | refine TotP.cond (fun _ => ?_) (fun _ => ?_)
 unfold Um
 repeat' first
  | exact TotP.ret trivial
  | refine TotP.cond (fun _ => ?_) (fun _ => ?_)
  | refine TotP.bind (by first | exact h1 | exact Qjf _ _) (fun _ _ => ?_)
section
variable {p : Q9} (h : Qvh p)
include h
theorem Qwt (v : Int) : Any (fun N => Jz N v p) := by
 have h1 : Any (fun N => Jy N v p.Kind) := by
  unfold Jy
  repeat' first
   | exact TotP.ret trivial
   | refine TotP.cond (fun _ => ?_) (fun _ => ?_)
 have h2 : Any (fun N => Yp N v p N 0) := by
  have hl := h.codes;refine Q42 (L := fun N n i => Yp N v p n i) p.Codes.length (fun _ => True) (fun i hi _ => ?_) (fun _ => ?_) trivial
  ·show Stp _ _ _ (fun N n => cond (Q3 .lss (i : Int) ((Q8 (cI .i64) p.Codes).length : Int)) _ _);refine Stp.cond (fun _ => ?_) (fun _ => Stp.ret trivial);refine Stp.idx (Qp hi) ?_;refine Stp.bind (Qwu _ _ _) (fun _ _ => ?_);refine Stp.cond (fun _ => Stp.ret trivial) (fun _ => ?_);rw [w64 _ (by omega)];exact Stp.go (L := fun N n i => Yp N v p n i) _ ⟨by omega, trivial⟩
  show Stp _ _ _ (fun N n => cond (Q3 .lss (p.Codes.length : Int) ((Q8 (cI .i64) p.Codes).length : Int)) _ _);rw [Q5, Ql, decide_eq_false (by omega)];exact Stp.ret trivial
 have h3 : Any (fun N => Yq N v p N 0) := by
  have hl := h.filters.1;refine Q42 (L := fun N n i => Yq N v p n i) p.Filters.length (fun _ => True) (fun i hi _ => ?_) (fun _ => ?_) trivial
  ·show Stp _ _ _ (fun N n => cond (Q3 .lss (i : Int) ((Q8 Qe.cells p.Filters).length : Int)) _ _);refine Stp.cond (fun _ => ?_) (fun _ => Stp.fin h2);refine Stp.idx (Qp hi) ?_;have hf := h.filters.2 _ (Mf hi);refine Stp.bind (Qcu _ (by omega)) (fun _ _ => ?_);refine Stp.cond (fun _ => Stp.ret trivial) (fun _ => ?_);refine Stp.bind (Qx5 _ _ _ hf) (fun _ _ => ?_);refine Stp.cond (fun _ => Stp.ret trivial) (fun _ => ?_);rw [w64 _ (by omega)];exact Stp.go (L := fun N n i => Yq N v p n i) _ ⟨by omega, trivial⟩
  show Stp _ _ _ (fun N n => cond (Q3 .lss (p.Filters.length : Int) ((Q8 Qe.cells p.Filters).length : Int)) _ _);rw [Q5, Ql, decide_eq_false (by omega)];exact Stp.fin h2
 unfold Jz
 repeat' first
  | exact h3
  | exact TotP.ret trivial
  | refine TotP.cond (fun _ => ?_) (fun _ => ?_)
  | refine TotP.bind (by first | exact h1 | exact Qvu h v | exact Qik h _ | exact h3) (fun _ _ => ?_)
theorem Qts (l : List Int) (hl : l.length ≤ 21000000000) : Any (fun N => X8 N p N 0 l) := by
 have hc := h.codes;refine Q8y (L := fun N n (q : Int × List Int) => X8 N p n q.1 q.2) (Q := fun _ => True) (fun q => ∃ i : Nat, q.1 = (i : Int) ∧ i ≤ p.Codes.length ∧ q.2.length ≤ 21000000000 + i) (fun q => p.Codes.length - q.1.toNat) ?_ (0, l) ⟨0, rfl, by omega, hl⟩
 rintro ⟨s, l⟩ ⟨i, hs, hi, hl⟩
 simp only at hs hl
 subst hs;show Stp _ _ _ (fun N n => cond (Q3 .lss (i : Int) ((Q8 (cI .i64) p.Codes).length : Int)) _ _);rw [Q5, Ql];dsimp only;refine Stp.cond (fun h => ?_) (fun _ => Stp.ret trivial);have h := of_decide_eq_true h;refine Stp.idx (Qp (show i < p.Codes.length by omega)) ?_;refine Stp.chk (by rw [Lk]; omega) ?_
 have e1 : wrap .i64 ((i : Int) + 1) = ((i + 1 : Nat) : Int) := by rw [w64 _ (by omega)]; omega
 rw [e1];exact Stp.go (L := fun N n (q : Int × List Int) => X8 N p n q.1 q.2) (((i + 1 : Nat) : Int), l ++ [_]) ⟨⟨i + 1, rfl, by omega, by simp only [Lg, Lj, Ll]; omega⟩, by simp only [Lt]; omega⟩
theorem Qf6 (l : List Int) (hl : l.length ≤ 20000000000) : Any (fun N => Ze N p N 0 l) := by
 have hc := h.filters.1;refine Q8y (L := fun N n (q : Int × List Int) => Ze N p n q.1 q.2) (Q := fun _ => True) (fun q => ∃ i : Nat, q.1 = (i : Int) ∧ i ≤ p.Filters.length ∧ q.2.length ≤ 20000000000 + i * 80001) (fun q => p.Filters.length - q.1.toNat) ?_ (0, l) ⟨0, rfl, by omega, by simpa using hl⟩
 rintro ⟨s, l⟩ ⟨i, hs, hi, hl⟩
 simp only at hs hl
 subst hs;show Stp _ _ _ (fun N n => cond (Q3 .lss (i : Int) ((Q8 Qe.cells p.Filters).length : Int)) _ _);rw [Q5, Ql];dsimp only;refine Stp.cond (fun hx => ?_) (fun _ => Stp.fin (Qts h l (by omega)));have hx := of_decide_eq_true hx
 have hi : i < p.Filters.length := by omega
 refine Stp.idx (Qp hi) ?_;have hf := h.filters.2 _ (Mf hi);generalize p.Filters[i] = y at hf
 have e1 : wrap .i64 ((i : Int) + 1) = ((i + 1 : Nat) : Int) := by rw [w64 _ (by omega)]; omega
 have ho : Any (fun N => Wy N y) := by
  unfold Wy
  repeat' first
   | exact TotP.ret trivial
   | refine TotP.cond (fun _ => ?_) (fun _ => ?_)
 have go : ∀ (o' : List Int), o'.length ≤ 20000000000 + (i + 1) * 80001 → Stp (fun N n (q : Int × List Int) => Ze N p n q.1 q.2) (fun s' => (∃ i : Nat, s'.1 = (i : Int) ∧ i ≤ p.Filters.length ∧ s'.2.length ≤ 20000000000 + i * 80001) ∧ p.Filters.length - s'.1.toNat < p.Filters.length - (i : Int).toNat) (fun _ => True) (fun N n => Ze N p n (wrap .i64 ((i : Int) + 1)) o') := by
  intro o' h2;rw [e1];exact Stp.go (L := fun N n (q : Int × List Int) => Ze N p n q.1 q.2) (((i + 1 : Nat) : Int), o') ⟨⟨i + 1, rfl, by omega, h2⟩, by simp only [Lt]; omega⟩
 refine Stp.bind (Qpf _ hf) (fun t ht => ?_);refine Stp.cond (fun _ => ?_) (fun _ => ?_)
 ·refine Stp.cond (fun _ => ?_) (fun _ => go l (Mt hl (Nat.add_le_add_left (Nq _ (Nat.le_succ i)) _)));refine Stp.bind ho (fun o _ => ?_);exact Stp.chk (by rw [Lk]; omega) (go _ (by simp only [Lg, Lj, Ll]; omega))
 refine Stp.chk (by rw [Lk]; omega) ?_;refine Stp.cond (fun _ => ?_) (fun _ => go _ (by simp only [Lg, Ls]; omega));refine Stp.bind ho (fun o _ => ?_);exact Stp.chk (by rw [Lk]; omega) (go _ (by simp only [Lg, Lj, Ll, Ls]; omega))
theorem Qxv (v : Int) : Any (fun N => Gi N v p) := by
 unfold Gi;refine TotP.bind (Qwt h v) (fun a _ => ?_);refine TotP.cond (fun _ => .ret trivial) (fun _ => ?_);refine TotP.bind (Jk _ _) (fun b hb => ?_);refine TotP.cond (fun _ => ?_) (fun _ => Qf6 h _ (by rw [Ls]; omega));refine TotP.bind (Q2d _ _ h.props) (fun d hd => ?_);refine TotP.cond (fun _ => Qf6 h _ (by rw [Ls]; omega)) (fun _ => ?_);exact TotP.chk (by rw [Lk]; omega) (Qf6 h _ (by rw [Lg, Ls, Ls]; omega))
theorem Qwy (v : Int) : Any (fun N => Uc N v p) := by
 have b1 : Any (fun N => Wk N ⟨v, p⟩) := by
  unfold Wk;exact TotP.bind (Qvp h v) (fun _ _ => .ret trivial)
 have b2 : Any (fun N => U4 N ⟨v, p⟩) := by
  unfold U4;exact TotP.bind (Qwb h v) (fun _ _ => .ret trivial)
 have b3 : Any (fun N => Wo N ⟨v, p⟩) := by
  unfold Wo;exact TotP.bind (Qw8 h v) (fun _ _ => .ret trivial)
 have b4 : Any (fun N => Y7 N ⟨v, p⟩) := by
  unfold Y7;exact TotP.bind (Qxv h v) (fun _ _ => .ret trivial)
 have b5 : Any (fun N => Yo N ⟨v, p⟩) := by
  unfold Yo;exact TotP.bind (Qwo h v) (fun _ _ => .ret trivial)
 have j0 : ∀ b, Any (fun N => U9 N v p b) := fun b => by
  unfold U9
  repeat' first
   | exact TotP.ret trivial
   | refine TotP.cond (fun _ => ?_) (fun _ => ?_)
   | refine TotP.bind (by first | exact b1 | exact b2 | exact b3 | exact b4 | exact b5) (fun _ _ => ?_)
 unfold Uc Q5m;refine TotP.bind (V := fun _ => True) (TotP.cond (fun _ => j0 _) (fun _ => j0 _)) (fun _ _ => .ret trivial)
end
theorem Qtb {p : Q9} (v : Int) (hk : p.Kind = 0) : TotP (fun N => Uc N v p) (fun r => r ≠ 0) := by
 unfold Uc Q5m
 have j0 : ∀ b, TotP (fun N => U9 N v p b) (fun r => r.2 ≠ 0) := fun b => by
  unfold U9;rw [hk];exact TotP.cond (fun _ => .ret (by decide)) (fun _ => .ret (by decide))
 exact TotP.bind (TotP.cond (fun _ => j0 _) (fun _ => j0 _)) (fun _ h => .ret h)
end
end Go.Av
namespace Go.Av
noncomputable section
theorem Ql5 (f : Xs) : Any (fun N => Q10 N f) := by
 unfold Q10
 repeat' first
  | exact TotP.ret trivial
  | refine TotP.cond (fun _ => ?_) (fun _ => ?_)
theorem Qxk (k : Int) : Any (fun N => Q2i N k) := by
 unfold Q2i
 repeat' first
  | exact TotP.ret trivial
  | refine TotP.cond (fun _ => ?_) (fun _ => ?_)
theorem Qy6 (k : Int) (f : Xs) : Any (fun N => Q6a N k f) := by
 have j6 : ∀ c1 c2 c3 c4 c5 c6, Any (fun N => Q00 N c1 c2 c3 c4 c5 c6) := fun c1 c2 c3 c4 c5 c6 => TotP.ret trivial;have j5 : ∀ v c1 c2 c3 c4 c5, Any (fun N => Q0a N f v c1 c2 c3 c4 c5) := fun v c1 c2 c3 c4 c5 => TotP.cond (fun _ => j6 _ _ _ _ _ _) (fun _ => j6 _ _ _ _ _ _);have j4 : ∀ v c1 c2 c3 c4, Any (fun N => Q05 N f v c1 c2 c3 c4) := fun v c1 c2 c3 c4 => TotP.cond (fun _ => j5 _ _ _ _ _ _) (fun _ => j5 _ _ _ _ _ _);have j3 : ∀ v c1 c2 c3, Any (fun N => Q0f N f v c1 c2 c3) := fun v c1 c2 c3 => TotP.cond (fun _ => j4 _ _ _ _ _) (fun _ => j4 _ _ _ _ _);have j2 : ∀ v c1 c2, Any (fun N => Q02 N f v c1 c2) := fun v c1 c2 => TotP.cond (fun _ => j3 _ _ _ _) (fun _ => j3 _ _ _ _);have j1 : ∀ v c1, Any (fun N => Q0g N f v c1) := fun v c1 => TotP.cond (fun _ => j2 _ _ _) (fun _ => j2 _ _ _);have j0 : ∀ c1, Any (fun N => Q0n N k f c1) := fun c1 => TotP.cond (fun _ => .ret trivial) (fun _ => TotP.bind (Qxk k) (fun v _ => TotP.cond (fun _ => j1 _ _) (fun _ => j1 _ _)));exact TotP.bind (Ql5 f) (fun v _ => TotP.cond (fun _ => .ret trivial) (fun _ => TotP.cond (fun _ => j0 _) (fun _ => j0 _)))
structure Cd (B : Nat) (c : Q4) : Prop where
 d : c.do' = 1 ∨ c.do' = 2
 nm : c.m.Name.length ≤ 70000
 da : c.m.Data.length ≤ 70000
 ou : c.out.length ≤ B
theorem Cd.mono {B C : Nat} {c : Q4} (h : Cd B c) (hB : B ≤ C) : Cd C c := ⟨h.d, h.nm, h.da, Mt h.ou hB⟩
theorem Cd.zero {B : Nat} {c : Q4} (h : Cd B c) : Q3 .eql c.do' 0 = false := by
 have := h.d;rw [Q8q]; exact decide_eq_false (by omega)
theorem Q8n {v : List UInt8} {n : Nat} (h : v.length = n + 1) : (!(Nat.beq v.length 0)) = true := by rw [h]; rfl
section
variable {B : Nat} {c : Q4} (h : Cd B c) (hB : B ≤ 10000000)
include h hB
theorem Qqs : TotP (fun N => Yg N c) (fun r => Cd (B + 70000) r.2) := by
 have hz := h.zero; have hd := h.d; have hn := h.nm; have ha := h.da; have ho := h.ou;unfold Yg;rw [hz]
 repeat' first
  | exact TotP.ret ⟨hd, by (first | (simp only [Ll]; omega) | (dsimp only; omega) | omega), by (first | (simp only [Ll]; omega) | (dsimp only; omega) | omega), by (first | (simp only [Lg, Ls]; omega) | (dsimp only; omega) | omega)⟩
  | refine TotP.cond (fun e => absurd e Ly) (fun _ => ?_)
  | refine TotP.bind (Q6e _ 1 (by omega) (by omega)) (fun v hv => TotP.chk (Q8n hv) (TotP.chk (by rw [Lk]; omega) ?_))
  | refine TotP.chk (by rw [Lk]; omega) ?_
  | refine TotP.cond (fun _ => ?_) (fun _ => ?_)
theorem Qtz : TotP (fun N => Yz N c) (fun r => Cd (B + 70000) r.2) := by
 have hz := h.zero; have hd := h.d; have hn := h.nm; have ha := h.da; have ho := h.ou;unfold Yz;rw [hz]
 repeat' first
  | exact TotP.ret ⟨hd, by (first | (simp only [Ll]; omega) | (dsimp only; omega) | omega), by (first | (simp only [Ll]; omega) | (dsimp only; omega) | omega), by (first | (simp only [Lg, Ls]; omega) | (dsimp only; omega) | omega)⟩
  | refine TotP.cond (fun e => absurd e Ly) (fun _ => ?_)
  | refine TotP.bind (Q6e _ 2 (by omega) (by omega)) (fun v hv => TotP.chk (Q8n hv) (TotP.chk (by rw [Lk]; omega) ?_))
  | refine TotP.chk (by rw [Lk]; omega) ?_
  | refine TotP.cond (fun _ => ?_) (fun _ => ?_)
theorem Qsu : TotP (fun N => Xk N c) (fun r => Cd (B + 70000) r.2) := by
 have hz := h.zero; have hd := h.d; have hn := h.nm; have ha := h.da; have ho := h.ou;unfold Xk;rw [hz]
 repeat' first
  | exact TotP.ret ⟨hd, by (first | (simp only [Ll]; omega) | (dsimp only; omega) | omega), by (first | (simp only [Ll]; omega) | (dsimp only; omega) | omega), by (first | (simp only [Lg, Ls]; omega) | (dsimp only; omega) | omega)⟩
  | refine TotP.cond (fun e => absurd e Ly) (fun _ => ?_)
  | refine TotP.bind (Q6e _ 1 (by omega) (by omega)) (fun v hv => TotP.chk (Q8n hv) (TotP.chk (by rw [Lk]; omega) ?_))
  | refine TotP.chk (by rw [Lk]; omega) ?_
  | refine TotP.cond (fun _ => ?_) (fun _ => ?_)
theorem Qmz : TotP (fun N => Yu N c) (fun r => Cd (B + 70000) r.2) := by
 have hz := h.zero; have hd := h.d; have hn := h.nm; have ha := h.da; have ho := h.ou;unfold Yu;rw [hz]
 repeat' first
  | exact TotP.ret ⟨hd, by (first | (simp only [Ll]; omega) | (dsimp only; omega) | omega), by (first | (simp only [Ll]; omega) | (dsimp only; omega) | omega), by (first | (simp only [Lg, Ls]; omega) | (dsimp only; omega) | omega)⟩
  | refine TotP.cond (fun e => absurd e Ly) (fun _ => ?_)
  | refine TotP.bind (Q6e _ 1 (by omega) (by omega)) (fun v hv => TotP.chk (Q8n hv) (TotP.chk (by rw [Lk]; omega) ?_))
  | refine TotP.chk (by rw [Lk]; omega) ?_
  | refine TotP.cond (fun _ => ?_) (fun _ => ?_)
theorem Z12 : TotP (fun N => Zp N c) (fun r => Cd (B + 70000) r.2) := by
 have hz := h.zero; have hd := h.d; have hn := h.nm; have ha := h.da; have ho := h.ou;unfold Zp;rw [hz]
 repeat' first
  | exact TotP.ret ⟨hd, by (first | (simp only [Ll]; omega) | (dsimp only; omega) | omega), by (first | (simp only [Ll]; omega) | (dsimp only; omega) | omega), by (first | (simp only [Lg, Ls]; omega) | (dsimp only; omega) | omega)⟩
  | refine TotP.cond (fun e => absurd e Ly) (fun _ => ?_)
  | refine TotP.bind (Q6e _ 1 (by omega) (by omega)) (fun v hv => TotP.chk (Q8n hv) (TotP.chk (by rw [Lk]; omega) ?_))
  | refine TotP.chk (by rw [Lk]; omega) ?_
  | refine TotP.cond (fun _ => ?_) (fun _ => ?_)
theorem Z2n : TotP (fun N => Y9 N c) (fun r => Cd (B + 70000) r.2) := by
 have hz := h.zero; have hd := h.d; have hn := h.nm; have ha := h.da; have ho := h.ou;unfold Y9;rw [hz]
 repeat' first
  | exact TotP.ret ⟨hd, by (first | (simp only [Ll]; omega) | (dsimp only; omega) | omega), by (first | (simp only [Ll]; omega) | (dsimp only; omega) | omega), by (first | (simp only [Lg, Ls]; omega) | (dsimp only; omega) | omega)⟩
  | refine TotP.cond (fun e => absurd e Ly) (fun _ => ?_)
  | refine TotP.bind (Q6e _ 2 (by omega) (by omega)) (fun v hv => TotP.chk (Q8n hv) (TotP.chk (by rw [Lk]; omega) ?_))
  | refine TotP.chk (by rw [Lk]; omega) ?_
  | refine TotP.cond (fun _ => ?_) (fun _ => ?_)
theorem Z1p : TotP (fun N => Qw N c) (fun r => Cd (B + 70000) r.2) := by
 have hz := h.zero; have hd := h.d; have hn := h.nm; have ha := h.da; have ho := h.ou;unfold Qw;rw [hz]
 repeat' first
  | exact TotP.ret ⟨hd, by (first | (simp only [Ll]; omega) | (dsimp only; omega) | omega), by (first | (simp only [Ll]; omega) | (dsimp only; omega) | omega), by (first | (simp only [Lg, Ls]; omega) | (dsimp only; omega) | omega)⟩
  | refine TotP.cond (fun e => absurd e Ly) (fun _ => ?_)
  | refine TotP.bind (Q6e _ 2 (by omega) (by omega)) (fun v hv => TotP.chk (Q8n hv) (TotP.chk (by rw [Lk]; omega) ?_))
  | refine TotP.chk (by rw [Lk]; omega) ?_
  | refine TotP.cond (fun _ => ?_) (fun _ => ?_)
theorem Qoa : TotP (fun N => Zc N c) (fun r => Cd (B + 70000) r.2) := by
 have hz := h.zero; have hd := h.d; have hn := h.nm; have ha := h.da; have ho := h.ou;unfold Zc;refine TotP.bind (Ql5 _) (fun w _ => ?_);rw [hz]
 repeat' first
  | exact TotP.ret ⟨hd, by (first | (simp only [Ll]; omega) | (dsimp only; omega) | omega), by (first | (simp only [Ll]; omega) | (dsimp only; omega) | omega), by (first | (simp only [Lg, Ls]; omega) | (dsimp only; omega) | omega)⟩
  | refine TotP.cond (fun e => absurd e Ly) (fun _ => ?_)
  | refine TotP.bind (Q6e _ 1 (by omega) (by omega)) (fun v hv => TotP.chk (Q8n hv) (TotP.chk (by rw [Lk]; omega) ?_))
  | refine TotP.chk (by rw [Lk]; omega) ?_
  | refine TotP.cond (fun _ => ?_) (fun _ => ?_)
theorem Qn5 : TotP (fun N => Z4 N c) (fun r => Cd (B + 70000) r.2) := by
 have hz := h.zero; have hd := h.d; have hn := h.nm; have ha := h.da; have ho := h.ou;unfold Z4;rw [hz];refine TotP.cond (fun e => absurd e Ly) (fun _ => ?_)
 refine TotP.cond (fun _ => ?_) (fun _ => .ret ⟨hd, by (first | (simp only [Ll]; omega) | (dsimp only; omega) | omega), by (first | (simp only [Ll]; omega) | (dsimp only; omega) | omega), by (first | (simp only [Lg, Ls]; omega) | (dsimp only; omega) | omega)⟩)
 refine TotP.cond (fun _ => .ret ⟨hd, by (first | (simp only [Ll]; omega) | (dsimp only; omega) | omega), by (first | (simp only [Ll]; omega) | (dsimp only; omega) | omega), by (first | (simp only [Lg, Ls]; omega) | (dsimp only; omega) | omega)⟩) (fun _ => ?_)
 exact TotP.chk (by rw [Lk]; omega) (.ret ⟨hd, by (first | (simp only [Ll]; omega) | (dsimp only; omega) | omega), by (first | (simp only [Ll]; omega) | (dsimp only; omega) | omega), by (first | (simp only [Lg, Ls]; omega) | (dsimp only; omega) | omega)⟩)
theorem Z15 : TotP (fun N => Yw N c) (fun r => Cd (B + 70000) r.2) := by
 have hz := h.zero; have hd := h.d; have hn := h.nm; have ha := h.da; have ho := h.ou;unfold Yw;rw [hz];refine TotP.cond (fun e => absurd e Ly) (fun _ => ?_)
 refine TotP.cond (fun _ => ?_) (fun _ => .ret ⟨hd, by (first | (simp only [Ll]; omega) | (dsimp only; omega) | omega), by (first | (simp only [Ll]; omega) | (dsimp only; omega) | omega), by (first | (simp only [Lg, Ls]; omega) | (dsimp only; omega) | omega)⟩)
 refine TotP.cond (fun _ => .ret ⟨hd, by (first | (simp only [Ll]; omega) | (dsimp only; omega) | omega), by (first | (simp only [Ll]; omega) | (dsimp only; omega) | omega), by (first | (simp only [Lg, Ls]; omega) | (dsimp only; omega) | omega)⟩) (fun _ => ?_)
 exact TotP.chk (by rw [Lk]; omega) (.ret ⟨hd, by (first | (simp only [Ll]; omega) | (dsimp only; omega) | omega), by (first | (simp only [Ll]; omega) | (dsimp only; omega) | omega), by (first | (simp only [Lg, Ls]; omega) | (dsimp only; omega) | omega)⟩)
end
section
variable {B : Nat} {c : Q4} (h : Cd B c) (hB : B ≤ 1000000)
include h hB
attribute [local irreducible] Yg Yz Xk Yu Zp Y9 Qw Zc Z4 Yw
theorem Z0w : TotP (fun N => Wh N c) (fun r => Cd (B + 140000) r.2) := by
 have hz := h.zero;unfold Wh;rw [hz]
 repeat' first
  | exact TotP.ret (Cd.mono (by assumption) (by omega))
  | refine TotP.cond (fun e => absurd e Ly) (fun _ => ?_)
  | refine TotP.cond (fun _ => ?_) (fun _ => ?_)
  | refine TotP.bind (Qoa (by assumption) (by omega)) (fun v hv => ?_)
  | refine TotP.bind (Qn5 (by assumption) (by omega)) (fun v hv => ?_)
theorem Qvz : TotP (fun N => Xt N c) (fun r => Cd (B + 140000) r.2) := by
 unfold Xt
 repeat' first
  | exact TotP.ret (Cd.mono (by assumption) (by omega))
  | refine TotP.cond (fun _ => ?_) (fun _ => ?_)
  | refine TotP.bind (Z2n (by assumption) (by omega)) (fun v hv => ?_)
  | refine TotP.bind (Qn5 (by assumption) (by omega)) (fun v hv => ?_)
theorem Qnt : TotP (fun N => Xo N c) (fun r => Cd (B + 140000) r.2) := by
 have hz := h.zero;unfold Xo;rw [hz];refine TotP.cond (fun e => absurd e Ly) (fun _ => ?_);refine TotP.cond (fun _ => ?_) (fun _ => ?_)
 ·refine TotP.bind (Qtz h (by omega)) (fun v hv => ?_);refine TotP.cond (fun _ => .ret ?_) (fun _ => .ret (hv.mono (by omega)));exact ⟨hv.d, hv.nm, hv.da, Mt hv.ou (by omega)⟩
 refine TotP.cond (fun _ => .ret ?_) (fun _ => .ret (h.mono (by omega)));exact ⟨h.d, h.nm, h.da, Mt h.ou (by omega)⟩
end
section
variable {B : Nat} {c : Q4} (h : Cd B c) (hB : B ≤ 1000)
include h hB
attribute [local irreducible] Yg Yz Xk Yu Zp Y9 Qw Zc Z4 Yw Wh Xt Xo
theorem Qhi : TotP (fun N => Yf N c) (fun r => Cd (B + 700000) r.2) := by
 have l0 : TotP (fun N => W2 N c N) (fun r => Cd (B + 700000) r.2) := ⟨((), c), h.mono (by omega), 1, fun N hN => by obtain ⟨M, rfl⟩ : ∃ M, N = M + 1 := ⟨N - 1, by omega⟩; rfl⟩;unfold Yf
 repeat' first
  | exact TotP.ret (Cd.mono (by assumption) (by omega))
  | exact l0
  | refine TotP.cond (fun _ => ?_) (fun _ => ?_)
  | refine TotP.bind (Qqs (by assumption) (by omega)) (fun v hv => ?_)
  | refine TotP.bind (Qtz (by assumption) (by omega)) (fun v hv => ?_)
  | refine TotP.bind (Qsu (by assumption) (by omega)) (fun v hv => ?_)
  | refine TotP.bind (Qmz (by assumption) (by omega)) (fun v hv => ?_)
  | refine TotP.bind (Z12 (by assumption) (by omega)) (fun v hv => ?_)
  | refine TotP.bind (Z2n (by assumption) (by omega)) (fun v hv => ?_)
  | refine TotP.bind (Z1p (by assumption) (by omega)) (fun v hv => ?_)
  | refine TotP.bind (Qoa (by assumption) (by omega)) (fun v hv => ?_)
  | refine TotP.bind (Qn5 (by assumption) (by omega)) (fun v hv => ?_)
  | refine TotP.bind (Z15 (by assumption) (by omega)) (fun v hv => ?_)
  | refine TotP.bind (Z0w (by assumption) (by omega)) (fun v hv => ?_)
  | refine TotP.bind (Qvz (by assumption) (by omega)) (fun v hv => ?_)
  | refine TotP.bind (Qnt (by assumption) (by omega)) (fun v hv => ?_)
end
structure OkM (m : Q1f) : Prop where
 nm : m.Name.length ≤ 70000
 da : m.Data.length ≤ 70000
section
variable {m : Q1f} (h : OkM m)
include h
theorem cd0 (d : Int) (hd : d = 1 ∨ d = 2) : Cd 0 ⟨d, m, [], false⟩ := ⟨hd, h.nm, h.da, Lp 0⟩
theorem Qpz : TotP (fun N => G8 N m) (fun l => l.length ≤ 700000) := by
 unfold G8;exact TotP.bind (Qhi (cd0 h 1 (.inl rfl)) (by omega)) (fun v hv => .ret (by have := hv.ou; rw [Ls]; omega))
end
theorem Ql0 (k r : Int) : TotP (fun N => Vd N k r) (fun x => x.1.length ≤ 100) := by
 have h1 : Any (fun N => Jp N k) := by
  unfold Jp
  repeat' first
   | exact TotP.ret trivial
   | refine TotP.cond (fun _ => ?_) (fun _ => ?_)
 unfold Vd;refine TotP.bind h1 (fun _ _ => ?_)
 repeat' first
  | exact TotP.ret (by simp only [Ll, Lg]; omega)
  | refine TotP.bind (Jk _ _) (fun v hv => ?_)
  | refine TotP.chk (by rw [Lk]; (first | omega | (simp only [Lg]; omega))) ?_
  | refine TotP.cond (fun _ => ?_) (fun _ => ?_)
section
variable {m : Q1f} (h : OkM m)
include h
theorem Qru : Any (fun N => Q3b N m) := by
 have hm := ml7; have hn := h.nm
 have h1 : Any (fun N => Q0u N m.Type') := by
  unfold Q0u Jp;refine TotP.bind (V := fun _ => True) ?_ (fun _ _ => TotP.cond (fun _ => .ret trivial) (fun _ => .ret trivial))
  repeat' first
   | exact TotP.ret trivial
   | refine TotP.cond (fun _ => ?_) (fun _ => ?_)
 have h2 : Any (fun N => Q4a N m.Type') := by
  unfold Q4a
  repeat' first
   | exact TotP.ret trivial
   | refine TotP.cond (fun _ => ?_) (fun _ => ?_)
 have h3 : Any (fun N => Gf N m) := by
  unfold Gf
  repeat' first
   | exact TotP.ret trivial
   | refine TotP.cond (fun _ => ?_) (fun _ => ?_)
 have hN : ∀ s : List UInt8, s.length ≤ 70000 → Any (fun N => Zf N s) := fun s hs => Q6h (Q7b _ (by omega));have hF : Any (fun N => Xr N m.Name) := Qcu _ hn;have hV : ∀ s, Any (fun N => Z5 N s) := fun s => Q6h (Q77 s)
 have h4 : ∀ i, Any (fun N => G5 N i) := fun i => by
  unfold G5;refine TotP.cond (fun _ => .ret trivial) (fun _ => TotP.cond (fun _ => .ret trivial) (fun _ => ?_));refine TotP.bind (Jk _ _) (fun v hv => ?_);refine TotP.bind (hN v (by omega)) (fun _ _ => ?_);exact TotP.cond (fun _ => .ret trivial) (fun _ => .ret trivial)
 have h5 : Any (fun N => Ul N m) := by
  unfold Ul
  repeat' first
   | exact TotP.ret trivial
   | refine TotP.cond (fun _ => ?_) (fun _ => ?_)
   | refine TotP.bind (by first | exact h4 _) (fun _ _ => ?_)
 have h6 : Any (fun N => Q0q N m) := by
  unfold Q0q
  repeat' first
   | exact TotP.ret trivial
   | refine TotP.cond (fun _ => ?_) (fun _ => ?_)
   | refine TotP.bind (by first | exact hN _ hn | exact hF | exact hV _) (fun _ _ => ?_)
 have h7 := (Qhi (cd0 h 2 (.inr rfl)) (by omega)).any;have h8 := (Qpz h).any;have h9 : ∀ a b, Any (fun N => Vd N a b) := fun a b => (Ql0 a b).any;have h10 := Qy6 m.Type' m.Flags;unfold Q3b
 repeat' first
  | exact TotP.ret trivial
  | refine TotP.cond (fun _ => ?_) (fun _ => ?_)
  | refine TotP.bind (by first | exact h1 | exact h10 | exact h2 | exact h7 | exact h3 | exact h5 | exact h6 | exact h8 | exact h9 _ _) (fun _ _ => ?_)
theorem Qd2 : TotP (fun N => Q0x N m) (fun r => r.1.length ≤ 800000) := by
 unfold Q0x;refine TotP.bind (Qru h) (fun _ _ => TotP.cond (fun _ => .ret (by simp)) (fun _ => ?_));refine TotP.bind (Qpz h) (fun v hv => ?_);refine TotP.bind (Ql0 _ _) (fun w hw => TotP.cond (fun _ => .ret (by simp)) (fun _ => ?_));exact TotP.chk (by rw [Lk]; omega) (.ret (by simp only [Lg]; omega))
end
structure Z46 (d : W1) : Prop where
 hops : d.Hops.length ≤ 30
 node : ∀ x ∈ d.Hops, x.Node.length ≤ 300
 msg : OkM d.Msg
section
variable {d : W1} (h : Z46 d) (l : Ya)
include h
theorem Qs0 (v : List UInt8 × Int) (hv : v.1.length ≤ 800000) : Any (fun N => W7 N d l v N [] 0) := by
 have hc := h.hops;refine Q8y (L := fun N n (q : List UInt8 × Int) => W7 N d l v n q.1 q.2) (Q := fun _ => True) (fun q => ∃ i : Nat, q.2 = (i : Int) ∧ i ≤ d.Hops.length ∧ q.1.length ≤ i * 400) (fun q => d.Hops.length - q.2.toNat) ?_ ([], 0) ⟨0, rfl, by omega, by simp⟩
 rintro ⟨o, s⟩ ⟨i, hs, hi, hl⟩
 simp only at hs hl
 subst hs;show Stp _ _ _ (fun N n => cond (Q3 .lss (i : Int) ((Q8 Vi.cells d.Hops).length : Int)) _ _);rw [Q5, Ql];dsimp only;refine Stp.cond (fun hx => ?_) (fun _ => Stp.cond (fun _ => Stp.ret trivial) (fun _ => Stp.chk (by rw [Lk]; omega) (Stp.ret trivial)));have hx := of_decide_eq_true hx
 have hi : i < d.Hops.length := by omega
 refine Stp.idx (Qp hi) ?_;have hf := h.node _ (Mf hi);generalize d.Hops[i] = y at hf
 have e1 : wrap .i64 ((i : Int) + 1) = ((i + 1 : Nat) : Int) := by rw [w64 _ (by omega)]; omega
 refine Stp.bind (Qso y hf) (fun w hw => ?_);refine Stp.chk (by rw [Lk]; omega) ?_;rw [e1];exact Stp.go (L := fun N n (q : List UInt8 × Int) => W7 N d l v n q.1 q.2) (o ++ w, ((i + 1 : Nat) : Int)) ⟨⟨i + 1, rfl, by omega, by simp only [Lg]; omega⟩, by simp only [Lt]; omega⟩
theorem Qhx (v : List UInt8 × Int) (hv : v.1.length ≤ 800000) : Any (fun N => W5 N d l v N [] 0) := by
 have hc := h.hops;refine Q8y (L := fun N n (q : List UInt8 × Int) => W5 N d l v n q.1 q.2) (Q := fun _ => True) (fun q => ∃ i : Nat, q.2 = (i : Int) ∧ i ≤ d.Hops.length ∧ q.1.length ≤ i * 400) (fun q => d.Hops.length - q.2.toNat) ?_ ([], 0) ⟨0, rfl, by omega, by simp⟩
 rintro ⟨o, s⟩ ⟨i, hs, hi, hl⟩
 simp only at hs hl
 subst hs;show Stp _ _ _ (fun N n => cond (Q3 .lss (i : Int) ((Q8 Vi.cells d.Hops).length : Int)) _ _);rw [Q5, Ql];dsimp only;refine Stp.cond (fun hx => ?_) (fun _ => Stp.cond (fun _ => Stp.ret trivial) (fun _ => Stp.chk (by rw [Lk]; omega) (Stp.ret trivial)));have hx := of_decide_eq_true hx
 have hi : i < d.Hops.length := by omega
 refine Stp.idx (Qp hi) ?_;have hf := h.node _ (Mf hi);generalize d.Hops[i] = y at hf
 have e1 : wrap .i64 ((i : Int) + 1) = ((i + 1 : Nat) : Int) := by rw [w64 _ (by omega)]; omega
 refine Stp.bind (Qso y hf) (fun w hw => ?_);refine Stp.chk (by rw [Lk]; omega) ?_;rw [e1];exact Stp.go (L := fun N n (q : List UInt8 × Int) => W5 N d l v n q.1 q.2) (o ++ w, ((i + 1 : Nat) : Int)) ⟨⟨i + 1, rfl, by omega, by simp only [Lg]; omega⟩, by simp only [Lt]; omega⟩
theorem Qkw : Any (fun N => Ua N d l) := by
 have hc := h.hops
 have h0 : Any (fun N => W4 N d l N 0) := by
  refine Q42 (L := fun N n i => W4 N d l n i) d.Hops.length (fun _ => True) (fun i hi _ => ?_) (fun _ => ?_) trivial
  ·show Stp _ _ _ (fun N n => cond (Q3 .lss (i : Int) ((Q8 Vi.cells d.Hops).length : Int)) _ _);refine Stp.cond (fun _ => ?_) (fun _ => ?_)
   ·refine Stp.idx (Qp hi) ?_;refine Stp.bind (Qua _) (fun _ _ => ?_);refine Stp.cond (fun _ => ?_) (fun _ => ?_)
    ·refine Stp.cond (fun _ => Stp.ret trivial) (fun _ => ?_);refine Stp.fin (TotP.bind (Qd2 h.msg) (fun v hv => ?_));exact TotP.cond (fun _ => .ret trivial) (fun _ => Qs0 h l v hv)
    rw [w64 _ (by omega)];exact Stp.go (L := fun N n i => W4 N d l n i) _ ⟨by omega, trivial⟩
   refine Stp.fin (TotP.bind (Qd2 h.msg) (fun v hv => ?_));exact TotP.cond (fun _ => .ret trivial) (fun _ => Qhx h l v hv)
  show Stp _ _ _ (fun N n => cond (Q3 .lss (d.Hops.length : Int) ((Q8 Vi.cells d.Hops).length : Int)) _ _);rw [Q5, Ql, decide_eq_false (by omega)];refine Stp.fin (TotP.bind (Qd2 h.msg) (fun v hv => ?_));exact TotP.cond (fun _ => .ret trivial) (fun _ => Qhx h l v hv)
 have h1 : Any (fun N => Q1i N l) := by
  unfold Q1i
  repeat' first
   | exact TotP.ret trivial
   | refine TotP.cond (fun _ => ?_) (fun _ => ?_)
 unfold Ua Q3w;refine TotP.bind (V := fun _ => True) ?_ (fun _ _ => .ret trivial);refine TotP.bind h1 (fun _ _ => ?_);exact TotP.cond (fun _ => .ret trivial) (fun _ => TotP.cond (fun _ => .ret trivial) (fun _ => h0))
end
end
end Go.Av
namespace Go.Av
noncomputable section
theorem Qtu (p : Q9) (h1 : p.Filters.length ≤ maxLen) (h2 : p.Props.length ≤ maxLen) (h3 : p.Will.Props.length ≤ maxLen) : TotP (fun N => Va N p) (fun v => v = true → Qvh p) := by
 have hm := Qby
 have h30 : 300 ≤ maxLen := by unfold maxLen; decide
 have tail : (p.Filters.length ≤ 30 → ∀ f ∈ p.Filters, f.Topic.length ≤ 2000) → TotP (fun N => cond (Q3 .leq (p.Topic.length : Int) 2000) (cond (Q3 .leq (p.Payload.length : Int) 2000) (cond (Q3 .leq (p.Client.length : Int) 2000) (cond (Q3 .leq (p.User.length : Int) 2000) (cond (Q3 .leq (p.Pass.length : Int) 2000)
  (cond (Q3 .leq (p.Will.Topic.length : Int) 2000) (cond (Q3 .leq (p.Will.Payload.length : Int) 2000) (cond (Q3 .leq ((Q8 (cI .i64) p.Codes).length : Int) 30) (cond (Q3 .leq (p.Filters.length : Int) 30)
  ((Z7 N p.Props).bind fun v26 => cond v26 ((Z7 N p.Will.Props).bind fun v29 => some v29) (some false)) (some false)) (some false)) (some false)) (some false)) (some false)) (some false)) (some false)) (some false)) (some false)) (fun v => v = true → Qvh p) := by
  intro hf;rw [Q5]
  iterate 9 refine TotP.cond (fun _ => ?_) (fun _ => .ret (fun h => nomatch h))
  rename_i a1 a2 a3 a4 a5 a6 a7 a8 a9;rw [Q2o] at a1 a2 a3 a4 a5 a6 a7 a8 a9;have a1 := of_decide_eq_true a1; have a2 := of_decide_eq_true a2; have a3 := of_decide_eq_true a3;have a4 := of_decide_eq_true a4; have a5 := of_decide_eq_true a5; have a6 := of_decide_eq_true a6;have a7 := of_decide_eq_true a7; have a8 := of_decide_eq_true a8; have a9 := of_decide_eq_true a9;refine TotP.bind (Qg7 _ h2) (fun v hv => TotP.cond (fun hv1 => ?_) (fun _ => .ret (fun h => nomatch h)));refine TotP.bind (Qg7 _ h3) (fun w hw => .ret (fun hw1 => ?_));have g1 := hv hv1; have g2 := hw hw1;exact ⟨⟨by omega, by omega, by omega, by omega⟩, ⟨g1.1, fun x hx => Mt (g1.2 x hx).1 h30⟩, ⟨g2.1, fun x hx => Mt (g2.2 x hx).1 h30⟩, by omega, by omega, by omega, by omega, by omega, by omega, by omega, by omega, by omega, hf (by omega)⟩
 refine Q42 (L := fun N n s => Zo N p n s) p.Filters.length (fun i => ∀ j (h : j < p.Filters.length), j < i → (p.Filters[j]).Topic.length ≤ 2000) (fun i hi hj => ?_) (fun hj => ?_) (fun j _ hj => by omega)
 ·show Stp _ _ _ (fun N n => cond (Q3 .lss (i : Int) ((Q8 Qe.cells p.Filters).length : Int)) _ _);rw [Q5, Ql];refine Stp.cond (fun _ => ?_) (fun h => by have := of_decide_eq_false h; omega);refine Stp.cond (fun _ => ?_) (fun h => Stp.fin (tail (fun hc => ?_)))
  ·refine Stp.idx (Qp hi) ?_;rw [Q6g];refine Stp.cond (fun _ => Stp.ret (fun h => nomatch h)) (fun h1 => ?_);have h1 := of_decide_eq_false h1;rw [w64 _ (by omega)];refine Stp.go (L := fun N n s => Zo N p n s) _ ⟨by omega, fun j hj' hji => ?_⟩
   by_cases e : j = i
   ·subst e; omega
   exact hj j hj' (by omega)
  rw [Ql] at h; have := of_decide_eq_false h; omega
 show Stp _ _ _ (fun N n => cond (Q3 .lss (p.Filters.length : Int) ((Q8 Qe.cells p.Filters).length : Int)) _ _);rw [Q5, Ql];refine Stp.cond (fun h => by have := of_decide_eq_true h; omega) (fun _ => Stp.fin (tail (fun _ f hf => ?_)));obtain ⟨j, hj', rfl⟩ := Bo hf;exact hj j hj' hj'
theorem Qzc (d : W1) : TotP (fun N => Wc N d) (fun v => v = true → Z46 d) := by
 refine TotP.cond (fun _ => .ret (fun h => nomatch h)) (fun h0 => ?_);rw [Q5, Q6g] at h0;have h0 := of_decide_eq_false h0;refine TotP.bind (V := fun v => v = true → OkM d.Msg) ?_ (fun v hv => ?_)
 ·show TotP (fun N => cond (Q3 .leq (d.Msg.Name.length : Int) 70000) _ _) _;rw [Q2o, Q2o];refine TotP.cond (fun h1 => .ret (fun h2 => ?_)) (fun _ => .ret (fun h => nomatch h));have h1 := of_decide_eq_true h1; have h2 := of_decide_eq_true h2;exact ⟨by omega, by omega⟩
 refine TotP.cond (fun _ => .ret (fun h => nomatch h)) (fun hn => ?_);have hM := hv (by simpa using hn);refine Q42 (L := fun N n s => Zh N d n s) d.Hops.length (fun i => ∀ j (h : j < d.Hops.length), j < i → (d.Hops[j]).Node.length ≤ 300) (fun i hi hj => ?_) (fun hj => ?_) (fun j _ hj => by omega)
 ·show Stp _ _ _ (fun N n => cond (Q3 .lss (i : Int) ((Q8 Vi.cells d.Hops).length : Int)) _ _);rw [Q5, Ql];refine Stp.cond (fun _ => ?_) (fun h => by have := of_decide_eq_false h; omega);refine Stp.idx (Qp hi) ?_;rw [Q6g];refine Stp.cond (fun _ => Stp.ret (fun h => nomatch h)) (fun h1 => ?_);have h1 := of_decide_eq_false h1;rw [w64 _ (by omega)];refine Stp.go (L := fun N n s => Zh N d n s) _ ⟨by omega, fun j hj' hji => ?_⟩
  by_cases e : j = i
  ·subst e; omega
  exact hj j hj' (by omega)
 show Stp _ _ _ (fun N n => cond (Q3 .lss (d.Hops.length : Int) ((Q8 Vi.cells d.Hops).length : Int)) _ _);rw [Q5, Ql];refine Stp.cond (fun h => by have := of_decide_eq_true h; omega) (fun _ => Stp.ret (fun _ => ⟨by omega, fun x hx => ?_, hM⟩));obtain ⟨j, hj', rfl⟩ := Bo hx;exact hj j hj' hj'
theorem Qxs (f : Yi) (hv : ∀ x ∈ f.Values, OkV x) : TotP (fun N => Zz N f) (fun v => v = true → FB f) := by
 obtain ⟨r, _, N0, h⟩ := Qtp f;refine ⟨r, fun hr => ?_, N0, h⟩;obtain ⟨b, h1, h2⟩ := Qmj (N := max N0 800000000) (by omega) f;rw [show Zz (max N0 800000000) f = some r from h _ (by omega)] at h1;have := h2 ((Option.some.inj h1).symm.trans hr);exact Qxr this.1 this.2.2 hv
structure LE (e : Qn) : Prop where
 topic : e.Topic.length ≤ 2000
 payload : e.Payload.length ≤ 2000
 props : OkP e.Props
 pk : Qvh e.Packet
 dg : Z46 ⟨e.Hops, e.Msg⟩
 fb : FB e.Frame
theorem Qyb (e : Qn) (h : OkE e) (hv : ∀ x ∈ e.Frame.Values, OkV x) : TotP (fun N => Vk N e) (fun v => v = true → LE e) := by
 have h30 : 300 ≤ maxLen := by unfold maxLen; decide
 refine TotP.cond (fun h1 => ?_) (fun _ => .ret (fun h => nomatch h));refine TotP.cond (fun h2 => ?_) (fun _ => .ret (fun h => nomatch h));rw [Q2o] at h1 h2;have h1 := of_decide_eq_true h1; have h2 := of_decide_eq_true h2;refine TotP.bind (Qg7 _ h.props) (fun v hv1 => ?_);refine TotP.cond (fun h3 => ?_) (fun _ => .ret (fun h => nomatch h));refine TotP.bind (Qtu _ h.filters h.pprops h.wprops) (fun u hu => ?_);refine TotP.cond (fun hu1 => ?_) (fun _ => .ret (fun h => nomatch h));refine TotP.bind (Qzc _) (fun w hw => ?_);refine TotP.cond (fun h4 => ?_) (fun _ => .ret (fun h => nomatch h));refine TotP.bind (Qxs _ hv) (fun x hx => .ret (fun h5 => ?_));have g := hv1 h3;exact ⟨by omega, by omega, ⟨g.1, fun x hx => Mt (g.2 x hx).1 h30⟩, hu hu1, hw h4, hx h5⟩
theorem Q8d (N : Nat) (s : List Qc) (h : s.length ≤ 100000) : Q0h N s = some s := by
 unfold Q0h
 cases s with
 | nil => rfl
 | cons x s =>
  have e : Nat.beq (x :: s).length 0 = false := rfl
  have e2 : Nat.ble ((0 + (x :: s).length + 4096) * 48) 17592186044416 = true := by rw [Lk]; omega
  rw [e, e2]; rfl
theorem Qms (N : Nat) (s : List Vi) (h : s.length ≤ 100000) : Q5g N s = some s := by
 unfold Q5g
 cases s with
 | nil => rfl
 | cons x s =>
  have e : Nat.beq (x :: s).length 0 = false := rfl
  have e2 : Nat.ble ((0 + (x :: s).length + 4096) * 24) 17592186044416 = true := by rw [Lk]; omega
  rw [e, e2]; rfl
theorem Qny (N : Nat) (s : List Int) (h : s.length ≤ 100000) : Q7g N s = some s := by
 unfold Q7g
 cases s with
 | nil => rfl
 | cons x s =>
  have e : Nat.beq (x :: s).length 0 = false := rfl
  have e2 : Nat.ble ((0 + (x :: s).length + 4096) * 8) 17592186044416 = true := by rw [Lk]; omega
  rw [e, e2]; rfl
theorem Qgw (N : Nat) (s : List Qe) (h : s.length ≤ 100000) : Q3y N s = some s := by
 unfold Q3y
 cases s with
 | nil => rfl
 | cons x s =>
  have e : Nat.beq (x :: s).length 0 = false := rfl
  have e2 : Nat.ble ((0 + (x :: s).length + 4096) * 40) 17592186044416 = true := by rw [Lk]; omega
  rw [e, e2]; rfl
theorem Qng (N : Nat) (p : Q9) (h : Qvh p) : Q5e N p = some p := by
 have h1 := h.codes; have h2 := h.filters.1; have h3 := h.props.len; have h4 := h.wprops.len;unfold Q5e;rw [Qny N _ (by omega), Qgw N _ (by omega), Q8d N _ (by omega), Q8d N _ (by omega)];rfl
theorem Qop (e : Qn) (h : LE e) : Tot (fun N => Q4h N e) e := by
 have h1 := h.props.len; have h2 := h.dg.hops
 have key : TotP (fun N => Vf N e e.Props e.Hops e.Packet N 0 []) (fun r => r = e) := by
  have hl : e.Frame.Values.length < 160000000 := by have := h.fb.sz; have := Q0.szs_len e.Frame.Values; omega
  have := Q8y (L := fun N n (q : Int × List Q0) => Vf N e e.Props e.Hops e.Packet n q.1 q.2) (Q := fun r => r = e) (fun q => ∃ i : Nat, q.1 = (i : Int) ∧ i ≤ e.Frame.Values.length ∧ q.2 = e.Frame.Values.take i) (fun q => e.Frame.Values.length - q.1.toNat) ?_ (0, []) ⟨0, rfl, by omega, rfl⟩
  ·exact this
  rintro ⟨s, l⟩ ⟨i, hs, hi, hl2⟩
  simp only at hs hl2
  subst hs hl2;show Stp _ _ _ (fun N n => cond (Q3 .lss (i : Int) ((Q0.rows e.Frame.Values).length : Int)) _ _);rw [Q0.rows_eq, Q5, Ql];dsimp only;refine Stp.cond (fun hx => ?_) (fun hx => Stp.ret ?_)
  ·have hx := of_decide_eq_true hx
   have hi : i < e.Frame.Values.length := by omega
   refine Stp.idx (Qp hi) ?_;have hf := h.fb.one _ (Mf hi);refine Stp.bind (f := fun N => Us N e.Frame.Values[i]) (V := (· = e.Frame.Values[i])) ⟨_, rfl, e.Frame.Values[i].sz + 1, fun N hN => Qsh N e.Frame.Values[i] (by omega) (by omega)⟩ (fun v hv => ?_);subst hv;refine Stp.chk (by rw [Lk, Lz]; omega) ?_
   have e1 : wrap .i64 ((i : Int) + 1) = ((i + 1 : Nat) : Int) := by rw [w64 _ (by omega)]; omega
   rw [e1];exact Stp.go (L := fun N n (q : Int × List Q0) => Vf N e e.Props e.Hops e.Packet n q.1 q.2) (((i + 1 : Nat) : Int), e.Frame.Values.take i ++ [e.Frame.Values[i]]) ⟨⟨i + 1, rfl, by omega, by rw [Ny hi]⟩, by simp only [Lt]; omega⟩
  have hx := of_decide_eq_false hx;rw [Mo (by omega)]
 obtain ⟨r, rfl, N0, hN⟩ := key;refine ⟨N0, fun N hh => ?_⟩;show (Q0h N r.Props).bind _ = some r;rw [Q8d N _ (by omega)];rw [Li];show (Q5g N r.Hops).bind _ = some r;rw [Qms N _ (Mt h2 (by omega)), Li, Qng N _ h.pk, Li];exact hN N hh
end
end Go.Av
namespace Go.Av
noncomputable section
theorem Z1x (a b : Qn) : (((a.Msg.Type' : Int) == b.Msg.Type') && (((a.Msg.Flags.Dup : Bool) == b.Msg.Flags.Dup) && (((a.Msg.Flags.QoS : Int) == b.Msg.Flags.QoS) && (((a.Msg.Flags.Retain : Bool) == b.Msg.Flags.Retain) && (((a.Msg.Flags.Will : Bool) == b.Msg.Flags.Will) && (((a.Msg.Flags.Clean : Bool) == b.Msg.Flags.Clean) && (((a.Msg.Flags.Type' : Int) == b.Msg.Flags.Type') && (((a.Msg.Gateway : Int) == b.Msg.Gateway) && (((a.Msg.Radius : Int) == b.Msg.Radius) && (((a.Msg.Time : Int) == b.Msg.Time) && (((a.Msg.Timed : Bool) == b.Msg.Timed) && (((a.Msg.TopicID : Int) == b.Msg.TopicID) && (((a.Msg.MsgID : Int) == b.Msg.MsgID) && (((a.Msg.Code : Int) == b.Msg.Code) && (((a.Msg.Name : List UInt8) == b.Msg.Name) && (((a.Msg.Data : List UInt8) == b.Msg.Data) && true)))))))))))))))) = true ↔ a.Msg = b.Msg := by
 generalize a.Msg = m; generalize b.Msg = n;obtain ⟨a1, ⟨f1, f2, f3, f4, f5, f6⟩, a2, a3, a4, a5, a6, a7, a8, a9, a10⟩ := m;obtain ⟨b1, ⟨g1, g2, g3, g4, g5, g6⟩, b2, b3, b4, b5, b6, b7, b8, b9, b10⟩ := n;simp
 intros; simp only [and_assoc]
theorem Z4h {a b : Qn} (h0 : a.Proto = b.Proto) (h1 : a.Kind = b.Kind) (h2 : a.Topic = b.Topic) (h3 : a.Payload = b.Payload) (h4 : a.QoS = b.QoS) (h5 : a.Retain = b.Retain) (h6 : a.Dup = b.Dup) (h7 : a.ID = b.ID) (h8 : a.Props = b.Props) (h9 : a.Type' = b.Type') (h10 : a.Hops = b.Hops) (h11 : a.Channel = b.Channel) (h12 : a.Packet = b.Packet) (h13 : a.Msg = b.Msg) (h14 : a.Frame = b.Frame) : a = b := by
 cases a; cases b; simp only at h0 h1 h2 h3 h4 h5 h6 h7 h8 h9 h10 h11 h12 h13 h14;subst h0 h1 h2 h3 h4 h5 h6 h7 h8 h9 h10 h11 h12 h13 h14; rfl
structure Z4t (a : Qn) : Prop where
 props : a.Props.length ≤ maxLen
 hops : a.Hops.length ≤ maxLen
 pk : Z3s a.Packet
 fr : Q0.szs a.Frame.Values < 700000000
theorem Q0z (a b : Qn) (h : Z4t a) : TotP (fun N => Wl N a b) (fun v => v = true ↔ a = b) := by
 unfold Wl;simp only [Q6n, Qpd];refine TotP.cond (fun g => .ret ⟨fun e => absurd e Ly, fun e => absurd g (by rw [e]; simp)⟩) (fun g => ?_)
 have e0 : a.Proto = b.Proto := by simpa using g
 clear g;refine TotP.cond (fun g => .ret ⟨fun e => absurd e Ly, fun e => absurd g (by rw [e]; simp)⟩) (fun g => ?_)
 have e1 : a.Kind = b.Kind := by simpa using g
 clear g;refine TotP.cond (fun g => .ret ⟨fun e => absurd e Ly, fun e => absurd g (by rw [e]; simp)⟩) (fun g => ?_)
 have e2 : a.Topic = b.Topic := by simpa using g
 clear g;refine TotP.cond (fun g => .ret ⟨fun e => absurd e Ly, fun e => absurd g (by rw [e]; simp)⟩) (fun g => ?_)
 have e3 : a.Payload = b.Payload := by simpa using g
 clear g;refine TotP.cond (fun g => .ret ⟨fun e => absurd e Ly, fun e => absurd g (by rw [e]; simp)⟩) (fun g => ?_)
 have e4 : a.QoS = b.QoS := by simpa using g
 clear g;refine TotP.cond (fun g => .ret ⟨fun e => absurd e Ly, fun e => absurd g (by rw [e]; simp)⟩) (fun g => ?_)
 have e5 : a.Retain = b.Retain := by simpa using g
 clear g;refine TotP.cond (fun g => .ret ⟨fun e => absurd e Ly, fun e => absurd g (by rw [e]; simp)⟩) (fun g => ?_)
 have e6 : a.Dup = b.Dup := by simpa using g
 clear g;refine TotP.cond (fun g => .ret ⟨fun e => absurd e Ly, fun e => absurd g (by rw [e]; simp)⟩) (fun g => ?_)
 have e7 : a.ID = b.ID := by simpa using g
 clear g;refine TotP.cond (fun g => .ret ⟨fun e => absurd e Ly, fun e => absurd g (by rw [e]; simp)⟩) (fun g => ?_)
 have e8 : a.Type' = b.Type' := by simpa using g
 clear g;refine TotP.cond (fun g => .ret ⟨fun e => absurd e Ly, fun e => absurd g (by rw [e]; simp)⟩) (fun g => ?_)
 have e9 : a.Channel = b.Channel := by simpa using g
 clear g;refine TotP.bind (Qln _ _ h.props) (fun v1 g1 => ?_);refine TotP.cond (fun c1 => ?_) (fun c1 => .ret ⟨fun e => absurd e Ly, fun e => absurd (g1.2 (by rw [e])) (by rw [c1]; simp)⟩);refine TotP.bind (Qn0 _ _ h.hops) (fun v2 g2 => ?_);refine TotP.cond (fun c2 => ?_) (fun c2 => .ret ⟨fun e => absurd e Ly, fun e => absurd (g2.2 (by rw [e])) (by rw [c2]; simp)⟩);refine TotP.bind (Qds _ _ h.pk) (fun v3 g3 => ?_);refine TotP.cond (fun c3 => ?_) (fun c3 => .ret ⟨fun e => absurd e Ly, fun e => absurd (g3.2 (by rw [e])) (by rw [c3]; simp)⟩);refine TotP.cond (fun c4 => ?_) (fun c4 => .ret ⟨fun e => absurd e Ly, fun e => absurd ((Z1x a b).2 (by rw [e])) (by rw [c4]; simp)⟩);refine TotP.bind (f := fun N => Xq N a.Frame b.Frame) (V := fun v => v = decide (a.Frame = b.Frame)) ⟨_, rfl, 800000000, fun N hN => Qg5 hN _ _ h.fr⟩ (fun v g => .ret ?_);have q := (Z1x a b).1 c4;rw [g, decide_eq_true_eq];exact ⟨fun e => Z4h e0 e1 e2 e3 e4 e5 e6 e7 (g1.1 c1) e8 (g2.1 c2) e9 (g3.1 c3) q e, fun e => by rw [e]⟩
structure PubT (e : Qn) (c t b : Bool) : Prop where
 known : e.Proto = 1 ∨ e.Proto = 2 ∨ e.Proto = 3 ∨ e.Proto = 4
 kind : e.Kind = 1
 qos : (0 ≤ e.QoS ∧ e.QoS ≤ 2) ∨ (e.Proto = 3 ∧ e.QoS = -1)
 id : 0 ≤ e.ID ∧ e.ID ≤ 65535
 cid : c = decide (e.ID ≠ 0)
 dup : e.Dup = true → c = true ∨ e.Proto = 3
 props : 0 < e.Props.length → e.Proto = 2
 ty : e.Proto = 3 → t = true
 ty2 : e.Proto ≠ 3 → e.Type' = 0 ∧ e.Hops.length = 0
 ch : 0 ≤ e.Channel ∧ e.Channel ≤ 65535
 ch4 : e.Channel ≠ 0 → e.Proto = 4
 bare : b = true
section
variable {N : Nat} {e : Qn} {t b : Bool} {v : Int} (hn : Zf N e.Topic = some true) (ht : U7 N e = some t) (hb : Jf N e = some b) (hv : Zy N 3 e.Props = some v)
include hn ht hb hv
end
end
end Go.Av
namespace Go.Av
noncomputable section
section
variable {R S T A : Type}
theorem TotP.succ {f g : Nat → Option R} {Q : R → Prop} (e : ∀ N, f (N + 1) = g N) (h : TotP g Q) : TotP f Q := by
 obtain ⟨r, hr, N0, hN⟩ := h;refine ⟨r, hr, N0 + 1, fun N h => ?_⟩;obtain ⟨M, rfl⟩ : ∃ M, N = M + 1 := ⟨N - 1, by omega⟩;rw [e]; exact hN M (by omega)
theorem Qud {L : Nat → Nat → Int → A → Option R} {Q : R → Prop} (m : Nat) (J : Nat → A → Prop) (step : ∀ i a, i < m → J i a → Stp (fun N n (p : Int × A) => L N n p.1 p.2) (fun p => p.1 = ((i + 1 : Nat) : Int) ∧ J (i + 1) p.2) Q (fun N n => L N (n + 1) (i : Int) a))
  (fin : ∀ a, J m a → Stp (fun N n (p : Int × A) => L N n p.1 p.2) (fun _ => False) Q (fun N n => L N (n + 1) (m : Int) a)) (a : A) (h0 : J 0 a) : TotP (fun N => L N N 0 a) Q := by
 refine Q8y (L := fun N n (p : Int × A) => L N n p.1 p.2) (S := Int × A) (fun p => ∃ i : Nat, p.1 = (i : Int) ∧ i ≤ m ∧ J i p.2) (fun p => m - p.1.toNat) ?_ (0, a) ⟨0, rfl, Mm _, h0⟩
 rintro ⟨s, a⟩ ⟨i, hs, hi, hj⟩
 simp only at hs hj
 subst hs
 by_cases h : i < m
 ·rcases step i a h hj with ⟨r, N0, hr, hL⟩ | ⟨⟨s', a'⟩, N0, ⟨h1, h2⟩, hL⟩
  ·exact .inl ⟨r, N0, hr, hL⟩
  simp only at h1 h2
  subst h1;exact .inr ⟨(_, _), N0, ⟨⟨i + 1, rfl, h, h2⟩, by simp only [Lt]; omega⟩, hL⟩
 have : i = m := by omega
 subst this
 rcases fin a hj with ⟨r, N0, hr, hL⟩ | ⟨_, _, h2, _⟩
 ·exact .inl ⟨r, N0, hr, hL⟩
 exact h2.elim
theorem Z31 {L : Nat → (T → Option R) → Nat → S → Option R} {O : Nat → Nat → T → Option R} {P : T → Prop} {Q : R → Prop} (inv : S → Prop) (μ : S → Nat)
  (step : ∀ s, inv s → (∃ r N0, Q r ∧ ∀ N n k, N0 ≤ N → L N k (n + 1) s = some r) ∨ (∃ t, P t ∧ ∀ N n k, L N k (n + 1) s = k t) ∨ (∃ s' N0, (inv s' ∧ μ s' < μ s) ∧ ∀ N n k, N0 ≤ N → L N k (n + 1) s = L N k n s')) (s : S) (h : inv s) : Stp O P Q (fun N n => L N (O N n) N s) := by
 have key : ∀ (m : Nat) (s : S), μ s < m → inv s → (∃ r N0, Q r ∧ ∀ N n k, N0 ≤ N → N0 ≤ n → L N k n s = some r) ∨ ∃ t N0, P t ∧ ∀ N n k, N0 ≤ N → N0 ≤ n → L N k n s = k t := by
  intro m
  induction m with
  | zero => intro s h; omega
  | succ m ih =>
   intro s hm hi
   rcases step s hi with ⟨r, N0, hr, hL⟩ | ⟨t, ht, hL⟩ | ⟨s', N0, ⟨h1, h2⟩, hL⟩
   ·refine .inl ⟨r, N0 + 1, hr, fun N n k h1 h2 => ?_⟩;obtain ⟨j, rfl⟩ : ∃ j, n = j + 1 := ⟨n - 1, by omega⟩;exact hL N j k (by omega)
   ·refine .inr ⟨t, 1, ht, fun N n k h1 h2 => ?_⟩;obtain ⟨j, rfl⟩ : ∃ j, n = j + 1 := ⟨n - 1, by omega⟩;exact hL N j k
   rcases ih s' (by omega) h1 with ⟨r, M0, hr, hM⟩ | ⟨t, M0, ht, hM⟩
   ·refine .inl ⟨r, max N0 M0 + 1, hr, fun N n k h1 h2 => ?_⟩;obtain ⟨j, rfl⟩ : ∃ j, n = j + 1 := ⟨n - 1, by omega⟩;exact (hL N j k (by omega)).trans (hM N j k (by omega) (by omega))
   refine .inr ⟨t, max N0 M0 + 1, ht, fun N n k h1 h2 => ?_⟩;obtain ⟨j, rfl⟩ : ∃ j, n = j + 1 := ⟨n - 1, by omega⟩;exact (hL N j k (by omega)).trans (hM N j k (by omega) (by omega))
 rcases key (μ s + 1) s (by omega) h with ⟨r, N0, hr, hL⟩ | ⟨t, N0, ht, hL⟩
 ·exact .inl ⟨r, N0, hr, fun N n hN => hL N N _ hN hN⟩
 exact .inr ⟨t, N0, ht, fun N n hN => hL N N _ hN hN⟩
end
theorem Qnz (k : Int) : TotP (fun N => Gq N k) (fun v => 0 ≤ v.1 ∧ v.1 ≤ 64 ∧ (v.2 = true → 1 ≤ v.1)) := by
 unfold Gq
 repeat' first | exact TotP.ret (by decide) | refine TotP.cond (fun _ => ?_) (fun _ => ?_)
theorem Ql4 (n b : Int) (s : Bool) (h0 : 0 ≤ b) (h1 : b ≤ 64) (h2 : s = true → 1 ≤ b) : Any (fun N => Vp N n b s) := by
 unfold Vp;refine TotP.cond (fun h => ?_) (fun _ => TotP.cond (fun _ => .ret trivial) (fun _ => TotP.chk (decide_eq_true h0) (.ret trivial)));have := h2 h;exact TotP.chk (by rw [w64 _ (by omega)]; exact decide_eq_true (by omega)) (TotP.cond (fun _ => .ret trivial) (fun _ => .ret trivial))
theorem Qse (n : Int) : Any (fun N => Uj N n) := by
 unfold Uj Yc;refine TotP.cond (fun _ => TotP.bind (V := fun _ => True) ?_ (fun _ _ => .ret trivial)) (fun _ => .ret trivial)
 repeat' first | exact TotP.ret trivial | refine TotP.cond (fun _ => ?_) (fun _ => ?_)
theorem Qv6 (v : Q0) (h : (v.Text.length : Int) ≤ 1048576) : Any (fun N => W9 N v) := by
 refine TotP.cond (fun _ => TotP.bind (V := fun _ => True) ⟨_, trivial, v.Text.length + 1, fun N hN => Qgz N _ (by omega)⟩ (fun _ _ => TotP.cond (fun _ => .ret trivial) (fun _ => .ret trivial))) (fun _ => TotP.cond (fun _ => ?_) (fun _ => .ret trivial));refine Q42 (L := fun N n s => V1 N v n s) v.Text.length (fun _ => True) (fun i hi _ => ?_) (fun _ => ?_) trivial
 ·show Stp _ _ _ (fun N n => cond (Q3 .lss (i : Int) (v.Text.length : Int)) _ _);refine Stp.cond (fun _ => Stp.idx (Qp hi) (Stp.cond (fun _ => Stp.ret trivial) (fun _ => ?_))) (fun _ => Stp.ret trivial);rw [w64 _ (by omega)];exact Stp.go (L := fun N n s => V1 N v n s) _ ⟨by omega, trivial⟩
 show Stp _ _ _ (fun N n => cond (Q3 .lss (v.Text.length : Int) (v.Text.length : Int)) _ _);exact Stp.cond (fun h => absurd h (by rw [Ql]; simp)) (fun _ => Stp.ret trivial)
theorem Qlu (v : Q0) : Any (fun N => Jx N v) := by
 have ht : Q3 .gtr (v.Text.length : Int) 1048576 = false → Any (fun N => W9 N v) := fun h => Qv6 v (by rw [Q6g] at h; have := of_decide_eq_false h; omega)
 have hx : Any (fun N => Ue N v.Kind) := by
  unfold Ue
  repeat' first | exact TotP.ret trivial | refine TotP.cond (fun _ => ?_) (fun _ => ?_)
 unfold Jx;refine TotP.cond (fun _ => .ret trivial) (fun _ => TotP.cond (fun _ => .ret trivial) (fun _ => TotP.bind (Qnz v.Kind) (fun w hw => TotP.bind (Ql4 _ _ _ hw.1 hw.2.1 hw.2.2) (fun _ _ => ?_))))
 repeat' first | exact TotP.ret trivial | exact TotP.cond (fun _ => .ret trivial) (fun h => TotP.bind (ht h) (fun _ _ => .ret trivial)) | refine TotP.cond (fun _ => ?_) (fun _ => ?_) | refine TotP.bind (Qse _) (fun _ _ => ?_) | refine TotP.bind hx (fun _ _ => ?_)
theorem Qsd (c : Int) : Any (fun N => Q46 N c) := ⟨_, trivial, 0, fun _ _ => rfl⟩
theorem Qyc (c : Int) (v : Q0) : Any (fun N => Q1q N c v) := by
 unfold Q1q Q3t;refine TotP.bind (Qsd c) (fun w _ => ?_)
 repeat' first | exact TotP.ret trivial | refine TotP.cond (fun _ => ?_) (fun _ => ?_) | refine TotP.bind (Qlu _) (fun _ _ => ?_) | exact TotP.bind (Qnz _) (fun u hu => TotP.bind (Ql4 _ 8 u.2 (by decide) (by decide) (fun _ => by decide)) (fun _ _ => .ret trivial)) | refine TotP.bind (V := fun _ => True) ?_ (fun _ _ => .ret trivial)
theorem Que (f : Q1) (c : Int) : Any (fun N => U0 N f c) := by
 unfold U0;refine TotP.bind (Qsd c) (fun w _ => ?_)
 repeat' first | exact TotP.ret trivial | refine TotP.cond (fun _ => ?_) (fun _ => ?_) | refine TotP.bind (Qyc _ _) (fun _ _ => ?_)
theorem Qlb (k : Int) (l : List Q1) (hl : l.length < 160000000) : Any (fun N => J0 N k l) := by
 unfold J0;refine TotP.bind (f := fun N => Q5h N k) (V := fun v => v.length ≤ 4) ⟨_, Qr8 k, 0, fun _ _ => rfl⟩ (fun cs hc => ?_);refine Q42 (L := fun N n s => X6 N l cs n s) cs.length (fun _ => True) (fun i hi _ => ?_) (fun _ => ?_) trivial
 ·show Stp _ _ _ (fun N n => cond (Q3 .lss (i : Int) ((Q8 (cI .i64) cs).length : Int)) _ _);refine Stp.cond (fun _ => Stp.idx (Qp hi) ?_) (fun _ => Stp.ret trivial);refine Z31 (L := fun N k0 n (p : Bool × Int) => Xz N k0 l (i : Int) cs[i] n p.1 p.2) (O := fun N n s => X6 N l cs n s) (fun p => ∃ j : Nat, p.2 = (j : Int) ∧ j ≤ l.length) (fun p => l.length - p.2.toNat) ?_ (true, 0) ⟨0, rfl, Mm _⟩
  rintro ⟨b, s⟩ ⟨j, hs, hj⟩
  simp only at hs
  subst hs
  by_cases h : j < l.length
  ·have e : Q3 .lss (j : Int) ((Q1.rows l).length : Int) = true := by rw [Q1.rows_eq, Q5, Ql]; exact decide_eq_true (by omega)
   obtain ⟨r, _, N0, hr⟩ := Que l[j] cs[i];refine .inr (.inr ⟨(b && r, ((j + 1 : Nat) : Int)), N0, ⟨⟨j + 1, rfl, h⟩, by simp only [Lt]; omega⟩, fun N n k0 hN => ?_⟩);show cond (Q3 .lss (j : Int) ((Q1.rows l).length : Int)) _ _ = _;rw [e, Qp h, w64 _ (by omega)];have hr := hr N hN
   simp only at hr
   cases b
   ·rfl
   simp only [cond_true, Li, hr, Cm]; rfl
  have e : Q3 .lss (j : Int) ((Q1.rows l).length : Int) = false := by rw [Q1.rows_eq, Q5, Ql]; exact decide_eq_false (by omega)
  cases b
  ·refine .inr (.inl ⟨((i + 1 : Nat) : Int), ⟨rfl, trivial⟩, fun N n k0 => ?_⟩);show cond (Q3 .lss (j : Int) ((Q1.rows l).length : Int)) _ _ = _;rw [e];show k0 (wrap .i64 ((i : Int) + 1)) = _;rw [w64 _ (by omega)]; rfl
  refine .inl ⟨cs[i], 0, trivial, fun N n k0 _ => ?_⟩;show cond (Q3 .lss (j : Int) ((Q1.rows l).length : Int)) _ _ = _;rw [e]; rfl
 show Stp _ _ _ (fun N n => cond (Q3 .lss (cs.length : Int) ((Q8 (cI .i64) cs).length : Int)) _ _);exact Stp.cond (fun h => absurd h (by rw [Q5, Ql]; simp)) (fun _ => Stp.ret trivial)
theorem Qol (f : Q1) : Any (fun N => Vz N f) := TotP.bind (Qlb _ [f] (by simp)) (fun _ _ => .ret trivial)
def Dp : Nat → Q1 → Prop
 | 0, _ => False
 | k + 1, f => f.kids.length < 160000000 ∧ ∀ x ∈ f.kids, Dp k x
theorem Qeo : ∀ (k : Nat) (f : Q1), Dp k f → Any (fun N => Yh N f) ∧ ∀ c, Any (fun N => Y0 N f c)
 | 0, _, h => h.elim
 | k + 1, f, h => by
  have hw : Any (fun N => Yh N f) := by
   refine TotP.succ (g := fun N => Zx (Y0 N) N f N 0 0) (fun N => rfl) ?_;refine Qud (L := fun N n s a => Zx (Y0 N) N f n a s) f.kids.length (fun _ _ => True) (fun i a hi _ => ?_) (fun a _ => ?_) 0 trivial
   ·show Stp _ _ _ (fun N n => cond (Q3 .lss (i : Int) ((Q1.rows f.kids).length : Int)) _ _);refine Stp.cond (fun _ => Stp.idx (Qp hi) (Stp.bind (Qol _) (fun c _ => Stp.bind (f := fun N => Y0 N f.kids[i] c) ((Qeo k _ (h.2 _ (Mf hi))).2 c) (fun w _ => ?_)))) (fun _ => Stp.ret trivial);have := h.1;rw [w64 ((i : Int) + 1) (by omega)];exact Stp.go (L := fun N n (p : Int × Int) => Zx (Y0 N) N f n p.2 p.1) (_, _) ⟨by simp only; omega, trivial⟩
   show Stp _ _ _ (fun N n => cond (Q3 .lss (f.kids.length : Int) ((Q1.rows f.kids).length : Int)) _ _);exact Stp.cond (fun h => absurd h (by rw [Q1.rows_eq, Q5, Ql]; simp)) (fun _ => Stp.ret trivial)
  refine ⟨hw, fun c => ?_⟩;refine TotP.succ (g := fun N => U5 (Y0 N) (Yh N) N f c) (fun N => rfl) ?_;unfold U5;refine TotP.bind (Qsd c) (fun w _ => ?_)
  repeat' first | exact TotP.ret trivial | refine TotP.cond (fun _ => ?_) (fun _ => ?_) | exact TotP.bind hw (fun _ _ => .ret trivial)
theorem Qsc (k : Nat) (f : Q1) (h : Dp k f) : Any (fun N => Vh N f) := by
 cases k with
 | zero => exact h.elim
 | succ k =>
  refine Qud (L := fun N n s a => Yb N f n a s) f.kids.length (fun _ _ => True) (fun i a hi _ => ?_) (fun a _ => ?_) 1 trivial
  ·show Stp _ _ _ (fun N n => cond (Q3 .lss (i : Int) ((Q1.rows f.kids).length : Int)) _ _);refine Stp.cond (fun _ => Stp.idx (Qp hi) (Stp.bind (f := fun N => Y0 N f.kids[i] f.element) ((Qeo k _ (h.2 _ (Mf hi))).2 _) (fun w _ => ?_))) (fun _ => Stp.ret trivial);have := h.1;rw [w64 ((i : Int) + 1) (by omega)];exact Stp.go (L := fun N n (p : Int × Int) => Yb N f n p.2 p.1) (_, _) ⟨by simp only; omega, trivial⟩
  show Stp _ _ _ (fun N n => cond (Q3 .lss (f.kids.length : Int) ((Q1.rows f.kids).length : Int)) _ _);exact Stp.cond (fun h => absurd h (by rw [Q1.rows_eq, Q5, Ql]; simp)) (fun _ => Stp.ret trivial)
theorem Qw2 (l : List Q0) (i : Nat) (h : i < l.length) : Q0.szs (l.take (i + 1)) = Q0.szs (l.take i) + l[i].sz := by
 induction l generalizing i with
 | nil => simp at h
 | cons v l ih =>
  cases i with
  | zero => simp [Q0.szs]
  | succ i =>
   simp only [List.take_succ_cons, Q0.szs, List.getElem_cons_succ];rw [ih i (by simpa using h)]; omega
theorem szs_app (l : List Q0) (v : Q0) : Q0.szs (l ++ [v]) = Q0.szs l + v.sz := by
 induction l with
 | nil => simp [Q0.szs]
 | cons w l ih => simp only [Bj, Q0.szs, ih]; omega
theorem Qjr : ∀ (k : Nat) (v : Q0), v.sz ≤ k → v.sz < 160000000 → TotP (fun N => Yl N v) (fun w => w.sz = v.sz)
 | 0, v, h, _ => by have := v.sz_eq; omega
 | k + 1, v, h, h2 => by
  have hs := v.sz_eq;have hl := Q0.szs_len v.Items
  have L3 : ∀ c, TotP (fun N => Xn (Yl N) N v c N 0 []) (fun w => w.sz = v.sz) := fun c => by
   refine Qud (L := fun N n s a => Xn (Yl N) N v c n s a) v.Items.length (fun i l => l.length = i ∧ Q0.szs l = Q0.szs (v.Items.take i)) (fun i a hi hj => ?_) (fun a hj => ?_) [] ⟨rfl, rfl⟩
   ·show Stp _ _ _ (fun N n => cond (Q3 .lss (i : Int) ((Q0.rows v.Items).length : Int)) _ _);have hm := Q0.szs_mem _ _ (Mf hi);refine Stp.cond (fun _ => Stp.idx (Qp hi) (Stp.bind (f := fun N => Yl N v.Items[i]) (Qjr k v.Items[i] (by omega) (by omega)) (fun w hw => Stp.chk (by rw [Lk]; omega) ?_))) (fun h => absurd h (by rw [Q0.rows_eq, Q5, Ql]; simp [hi]));rw [w64 _ (by omega)];exact Stp.go (L := fun N n (p : Int × List Q0) => Xn (Yl N) N v c n p.1 p.2) (_, _) ⟨by simp only; omega, by simp [hj.1], by rw [szs_app, Qw2 _ _ hi, hj.2, hw]⟩
   show Stp _ _ _ (fun N n => cond (Q3 .lss (v.Items.length : Int) ((Q0.rows v.Items).length : Int)) _ _);refine Stp.cond (fun h => absurd h (by rw [Q0.rows_eq, Q5, Ql]; simp)) (fun _ => Stp.ret ?_);rw [Q0.sz_eq, hs]; simp only; rw [hj.2, Nx]
  refine TotP.succ (g := fun N => Q0i (Yl N) N v) (fun N => rfl) ?_;unfold Q0i Vo Vl Xm
  repeat' first | exact L3 _ | refine TotP.cond (fun _ => ?_) (fun _ => ?_)
theorem Qob : ∀ (k : Nat) (v : Q0), v.sz ≤ k → v.sz < 160000000 → TotP (fun N => Xg N v) (fun f => Dp k f)
 | 0, v, h, _ => by have := v.sz_eq; omega
 | k + 1, v, h, h2 => by
  have hs := v.sz_eq;have hl := Q0.szs_len v.Items;refine TotP.succ (g := fun N => Yr (Xg N) N v N 0 []) (fun N => rfl) ?_;refine Qud (L := fun N n s a => Yr (Xg N) N v n s a) v.Items.length (fun i l => l.length = i ∧ ∀ x ∈ l, Dp k x) (fun i a hi hj => ?_) (fun a hj => ?_) [] ⟨rfl, by simp⟩
  ·show Stp _ _ _ (fun N n => cond (Q3 .lss (i : Int) ((Q0.rows v.Items).length : Int)) _ _);have hm := Q0.szs_mem _ _ (Mf hi);refine Stp.cond (fun _ => Stp.idx (Qp hi) (Stp.bind (f := fun N => Xg N v.Items[i]) (Qob k v.Items[i] (by omega) (by omega)) (fun w hw => Stp.chk (by rw [Lk]; omega) ?_))) (fun h => absurd h (by rw [Q0.rows_eq, Q5, Ql]; simp [hi]));rw [w64 _ (by omega)];refine Stp.go (L := fun N n (p : Int × List Q1) => Yr (Xg N) N v n p.1 p.2) (_, _) ⟨by simp only; omega, by simp [hj.1], fun x hx => ?_⟩
   rcases Mi.1 hx with hx | hx
   ·exact hj.2 x hx
   rw [List.mem_singleton.1 hx]; exact hw
  show Stp _ _ _ (fun N n => cond (Q3 .lss (v.Items.length : Int) ((Q0.rows v.Items).length : Int)) _ _);refine Stp.cond (fun h => absurd h (by rw [Q0.rows_eq, Q5, Ql]; simp)) (fun _ => Stp.fin ?_);have hd : ∀ c n, Dp (k + 1) (⟨v, a, c, n⟩ : Q1) := fun c n => ⟨by show a.length < _; omega, hj.2⟩
  repeat' first | exact TotP.ret (hd _ _) | refine TotP.cond (fun _ => ?_) (fun _ => ?_) | refine TotP.bind (Qlb _ a (by omega)) (fun _ _ => ?_) | refine TotP.bind (Qeo (k + 1) _ (hd _ _)).1 (fun _ _ => ?_) | refine TotP.bind (Qsc (k + 1) _ (hd _ _)) (fun _ _ => ?_)
end
end Go.Av
namespace Go.Av
noncomputable section
theorem Qkn (v : Q0) : Any (fun N => V6 N v) := by
 unfold V6
 repeat' first | exact TotP.ret trivial | refine TotP.cond (fun _ => ?_) (fun _ => ?_)
theorem Qko : ∀ (k : Nat) (a b : Q0), a.sz ≤ k → a.sz < 160000000 → Any (fun N => Y3 N a b)
 | 0, a, b, h, _ => by have := a.sz_eq; omega
 | k + 1, a, b, h, h2 => by
  have hs := a.sz_eq;have hl := Q0.szs_len a.Items;refine TotP.succ (g := fun N => Q1x (Y3 N) N a b) (fun N => rfl) ?_;refine TotP.cond (fun _ => .ret trivial) (fun _ => TotP.cond (fun _ => .ret trivial) (fun _ => TotP.cond (fun _ => .ret trivial) (fun he => ?_)))
  have he : a.Items.length = b.Items.length := by
   rw [Q0.rows_eq, Q0.rows_eq, Q5, Q5, Q6n] at he;have := of_decide_eq_false he; omega
  have st : ∀ i (hi : i < a.Items.length) (hb : i < b.Items.length), Any (fun N => Y3 N a.Items[i] b.Items[i]) := fun i hi hb => by
   have hm := Q0.szs_mem _ _ (Mf hi);exact Qko k a.Items[i] _ (by omega) (by omega)
  refine TotP.cond (fun _ => TotP.bind (Qkn a) (fun _ _ => TotP.cond (fun _ => TotP.bind (Qkn b) (fun _ _ => TotP.cond (fun _ => .ret trivial) (fun _ => ?_))) (fun _ => .ret trivial))) (fun _ => ?_)
  ·refine Q42 (L := fun N n s => Xu (Y3 N) N a b n s) a.Items.length (fun _ => True) (fun i hi _ => ?_) (fun _ => ?_) trivial
   ·show Stp _ _ _ (fun N n => cond (Q3 .lss (i : Int) ((Q0.rows a.Items).length : Int)) _ _);have := st i hi (by omega);refine Stp.cond (fun _ => Stp.idx (Qp hi) (Stp.idx (Qp (by omega)) (Stp.bind (f := fun N => Y3 N a.Items[i] b.Items[i]) this (fun _ _ => Stp.cond (fun _ => Stp.ret trivial) (fun _ => ?_))))) (fun _ => Stp.ret trivial);rw [w64 _ (by omega)];exact Stp.go (L := fun N n s => Xu (Y3 N) N a b n s) _ ⟨by omega, trivial⟩
   show Stp _ _ _ (fun N n => cond (Q3 .lss (a.Items.length : Int) ((Q0.rows a.Items).length : Int)) _ _);exact Stp.cond (fun h => absurd h (by rw [Q0.rows_eq, Q5, Ql]; simp)) (fun _ => Stp.ret trivial)
  refine Q42 (L := fun N n s => Xv (Y3 N) N a b n s) a.Items.length (fun _ => True) (fun i hi _ => ?_) (fun _ => ?_) trivial
  ·show Stp _ _ _ (fun N n => cond (Q3 .lss (i : Int) ((Q0.rows a.Items).length : Int)) _ _);have := st i hi (by omega);refine Stp.cond (fun _ => Stp.idx (Qp hi) (Stp.idx (Qp (by omega)) (Stp.bind (f := fun N => Y3 N a.Items[i] b.Items[i]) this (fun _ _ => Stp.cond (fun _ => Stp.ret trivial) (fun _ => ?_))))) (fun _ => Stp.ret trivial);rw [w64 _ (by omega)];exact Stp.go (L := fun N n s => Xv (Y3 N) N a b n s) _ ⟨by omega, trivial⟩
  show Stp _ _ _ (fun N n => cond (Q3 .lss (a.Items.length : Int) ((Q0.rows a.Items).length : Int)) _ _);exact Stp.cond (fun h => absurd h (by rw [Q0.rows_eq, Q5, Ql]; simp)) (fun _ => Stp.ret trivial)
theorem Qv5 (v : Q0) (h2 : v.sz < 160000000) : Any (fun N => Q39 N v) := by
 have hs := v.sz_eq;have hl := Q0.szs_len v.Items;refine TotP.cond (fun _ => .ret trivial) (fun _ => ?_);refine Q8y (L := fun N n s => Xl N v n s) (fun s => ∃ i : Nat, s = (i : Int) ∧ i ≤ v.Items.length + 2) (fun s => v.Items.length + 2 - s.toNat) ?_ 2 ⟨2, rfl, by omega⟩
 rintro s ⟨i, rfl, hi⟩
 show Stp _ _ _ (fun N n => cond (Q3 .lss (i : Int) ((Q0.rows v.Items).length : Int)) _ _);refine Stp.cond (fun h => ?_) (fun _ => Stp.ret trivial)
 have hi : i < v.Items.length := by rw [Q0.rows_eq, Q5, Ql] at h; have := of_decide_eq_true h; omega
 refine Z31 (L := fun N k0 n s => Vt N k0 v (i : Int) n s) (O := fun N n s => Xl N v n s) (fun s => ∃ j : Nat, s = (j : Int) ∧ j ≤ i + 2) (fun s => i + 2 - s.toNat) ?_ 0 ⟨0, rfl, by omega⟩
 rintro s ⟨j, rfl, hj⟩
 by_cases h : j < i
 ·have e : Q3 .lss (j : Int) (i : Int) = true := by rw [Ql]; exact decide_eq_true (by omega)
  have hm := Q0.szs_mem _ _ (Mf hi);obtain ⟨r, _, N0, hr⟩ := Qko v.Items[i].sz v.Items[i] (v.Items[j]'(by omega)) (Lp _) (by omega)
  cases r with
  | true =>
   refine .inl ⟨16, N0, trivial, fun N n k0 hN => ?_⟩;show cond (Q3 .lss (j : Int) (i : Int)) _ _ = _;have hr := hr N hN
   simp only at hr
   rw [e, Qp hi, Qp (show j < v.Items.length by omega)];simp only [cond_true, Li, hr]
  | false =>
   refine .inr (.inr ⟨((j + 2 : Nat) : Int), N0, ⟨⟨j + 2, rfl, by omega⟩, by simp only [Lt]; omega⟩, fun N n k0 hN => ?_⟩);show cond (Q3 .lss (j : Int) (i : Int)) _ _ = _;have hr := hr N hN
   simp only at hr
   rw [e, Qp hi, Qp (show j < v.Items.length by omega), w64 _ (by omega)];simp only [cond_true, cond_false, Li, hr]; rfl
 have e : Q3 .lss (j : Int) (i : Int) = false := by rw [Ql]; exact decide_eq_false (by omega)
 refine .inr (.inl ⟨((i + 2 : Nat) : Int), ⟨⟨i + 2, rfl, by omega⟩, by simp only [Lt]; omega⟩, fun N n k0 => ?_⟩);show cond (Q3 .lss (j : Int) (i : Int)) _ _ = _;rw [e];show k0 (wrap .i64 ((i : Int) + 2)) = _;rw [w64 _ (by omega)]; rfl
theorem Qhq : ∀ (k : Nat) (v : Q0) (m : Int), v.sz ≤ k → v.sz < 160000000 → Any (fun N => Zr N v m)
 | 0, v, _, h, _ => by have := v.sz_eq; omega
 | k + 1, v, m, h, h2 => by
  have hs := v.sz_eq;have hl := Q0.szs_len v.Items
  have hh : Any (fun N => Jt N v) := by
   unfold Jt
   repeat' first | exact TotP.ret trivial | refine TotP.cond (fun _ => ?_) (fun _ => ?_)
  refine TotP.succ (g := fun N => Gx (Zr N) N v m) (fun N => rfl) ?_;refine TotP.cond (fun _ => .ret trivial) (fun _ => TotP.cond (fun _ => .ret trivial) (fun _ => TotP.cond (fun _ => TotP.bind (Qlu v) (fun _ _ => .ret trivial)) (fun _ => TotP.cond (fun _ => .ret trivial) (fun _ => TotP.bind hh (fun _ _ => TotP.cond (fun _ => .ret trivial) (fun _ => TotP.cond (fun _ => .ret trivial) (fun _ => ?_)))))));refine Q42 (L := fun N n s => Y6 (Zr N) N v m n s) v.Items.length (fun _ => True) (fun i hi _ => ?_) (fun _ => ?_) trivial
  ·show Stp _ _ _ (fun N n => cond (Q3 .lss (i : Int) ((Q0.rows v.Items).length : Int)) _ _);have hm := Q0.szs_mem _ _ (Mf hi);have g : ∀ m', Any (fun N => Zr N v.Items[i] m') := fun m' => Qhq k v.Items[i] m' (by omega) (by omega);refine Stp.cond (fun _ => Stp.idx (Qp hi) ?_) (fun h => absurd h (by rw [Q0.rows_eq, Q5, Ql]; simp [hi]));rw [w64 ((i : Int) + 1) (by omega)];refine Stp.cond (fun _ => Stp.cond (fun _ => Stp.ret trivial) (fun _ => ?_)) (fun _ => ?_)
   ·exact Stp.bind (f := fun N => Zr N v.Items[i] (wrap .i64 (m - 1))) (g _) (fun _ _ => Stp.cond (fun _ => Stp.ret trivial) (fun _ => Stp.go (L := fun N n s => Y6 (Zr N) N v m n s) _ ⟨by omega, trivial⟩))
   exact Stp.bind (f := fun N => Zr N v.Items[i] (wrap .i64 (m - 1))) (g _) (fun _ _ => Stp.cond (fun _ => Stp.ret trivial) (fun _ => Stp.go (L := fun N n s => Y6 (Zr N) N v m n s) _ ⟨by omega, trivial⟩))
  show Stp _ _ _ (fun N n => cond (Q3 .lss (v.Items.length : Int) ((Q0.rows v.Items).length : Int)) _ _);exact Stp.cond (fun h => absurd h (by rw [Q0.rows_eq, Q5, Ql]; simp)) (fun _ => Stp.fin (TotP.bind (Qv5 v h2) (fun _ _ => .ret trivial)))
theorem Qp1 (v : Q0) (m : Int) (h : v.sz < 160000000) : Any (fun N => J2 N v m) := by
 refine TotP.bind (V := fun _ => True) ?_ (fun _ _ => TotP.cond (fun _ => .ret trivial) (fun _ => TotP.bind (Qhq v.sz v m (Lp _) h) (fun _ _ => .ret trivial)));exact TotP.cond (fun _ => .ret trivial) (fun _ => .ret trivial)
theorem Qxl (v : Q0) (m : Int) (h : v.sz < 160000000) : Any (fun N => Q0b N v m) :=
 TotP.bind (Qp1 v m h) (fun _ _ => TotP.cond (fun _ => .ret trivial) (fun _ => TotP.bind (Qjr v.sz v (Lp _) h) (fun w hw => TotP.bind (Qob v.sz w (by omega) (by omega)) (fun f hf => TotP.bind (Qol f) (fun c _ => TotP.bind ((Qeo _ f hf).2 c) (fun _ _ => .ret trivial))))))
theorem Qv2 (f : Yi) (h : Q0.szs f.Values < 160000000) : Any (fun N => Q2v N f) := by
 have hl := Q0.szs_len f.Values;refine Qud (L := fun N n s a => Wf N f n s a) f.Values.length (fun i l => l.length = i) (fun i a hi hj => ?_) (fun a _ => ?_) [] rfl
 ·show Stp _ _ _ (fun N n => cond (Q3 .lss (i : Int) ((Q0.rows f.Values).length : Int)) _ _);have hm := Q0.szs_mem _ _ (Mf hi);refine Stp.cond (fun _ => Stp.idx (Qp hi) (Stp.bind (f := fun N => Yl N f.Values[i]) (Qjr f.Values[i].sz f.Values[i] (Lp _) (by omega)) (fun w hw => Stp.chk (by rw [Lk]; omega) ?_))) (fun _ => Stp.ret trivial);rw [w64 _ (by omega)];exact Stp.go (L := fun N n (p : Int × List Q0) => Wf N f n p.1 p.2) (_, _) ⟨by simp only; omega, by simp [hj]⟩
 show Stp _ _ _ (fun N n => cond (Q3 .lss (f.Values.length : Int) ((Q0.rows f.Values).length : Int)) _ _);exact Stp.cond (fun h => absurd h (by rw [Q0.rows_eq, Q5, Ql]; simp)) (fun _ => Stp.ret trivial)
theorem Qqj (f : Yi) (l : Ya) (h : Q0.szs f.Values < 160000000) : Any (fun N => Q1z N f l) := by
 have hl := Q0.szs_len f.Values
 have one : ∀ i (hi : i < f.Values.length), f.Values[i].sz < 160000000 := fun i hi => by have hm := Q0.szs_mem _ _ (Mf hi); omega
 have L1 : ∀ c, Any (fun N => X5 N f l N c 0) := fun c => by
  refine Qud (L := fun N n s a => X5 N f l n a s) f.Values.length (fun _ _ => True) (fun i a hi _ => ?_) (fun a _ => ?_) c trivial
  ·show Stp _ _ _ (fun N n => cond (Q3 .lss (i : Int) ((Q0.rows f.Values).length : Int)) _ _);refine Stp.cond (fun _ => Stp.idx (Qp hi) (Stp.bind (f := fun N => Q0b N f.Values[i] l.MaxDepth) (Qxl _ _ (one i hi)) (fun w hw => ?_))) (fun h => absurd h (by rw [Q0.rows_eq, Q5, Ql]; simp [hi]));rw [w64 ((i : Int) + 1) (by omega)];exact Stp.go (L := fun N n (p : Int × Int) => X5 N f l n p.2 p.1) (_, _) ⟨by simp only; omega, trivial⟩
  show Stp _ _ _ (fun N n => cond (Q3 .lss (f.Values.length : Int) ((Q0.rows f.Values).length : Int)) _ _);exact Stp.cond (fun h => absurd h (by rw [Q0.rows_eq, Q5, Ql]; simp)) (fun _ => Stp.cond (fun _ => Stp.ret trivial) (fun _ => Stp.ret trivial))
 have hr : Any (fun N => Gm N l) := by
  unfold Gm
  repeat' first | exact TotP.ret trivial | refine TotP.cond (fun _ => ?_) (fun _ => ?_)
 refine TotP.bind hr (fun _ _ => TotP.cond (fun _ => .ret trivial) (fun _ => TotP.bind (V := fun _ => True) (TotP.cond (fun _ => .ret trivial) (fun _ => .ret trivial)) (fun _ _ => ?_)));refine TotP.cond (fun _ => .ret trivial) (fun _ => TotP.cond (fun _ => .ret trivial) (fun _ => TotP.cond (fun _ => .ret trivial) (fun _ => TotP.cond (fun _ => .ret trivial) (fun _ => TotP.cond (fun _ => .ret trivial) (fun _ => TotP.cond (fun _ => .ret trivial) (fun _ => ?_))))));refine Q42 (L := fun N n s => Xx N f l n s) f.Values.length (fun _ => True) (fun i hi _ => ?_) (fun _ => ?_) trivial
 ·show Stp _ _ _ (fun N n => cond (Q3 .lss (i : Int) ((Q0.rows f.Values).length : Int)) _ _);refine Stp.cond (fun _ => Stp.idx (Qp hi) (Stp.bind (f := fun N => J2 N f.Values[i] l.MaxDepth) (Qp1 _ _ (one i hi)) (fun _ _ => Stp.cond (fun _ => Stp.ret trivial) (fun _ => ?_)))) (fun h => absurd h (by rw [Q0.rows_eq, Q5, Ql]; simp [hi]));rw [w64 _ (by omega)];exact Stp.go (L := fun N n s => Xx N f l n s) _ ⟨by omega, trivial⟩
 show Stp _ _ _ (fun N n => cond (Q3 .lss (f.Values.length : Int) ((Q0.rows f.Values).length : Int)) _ _);exact Stp.cond (fun h => absurd h (by rw [Q0.rows_eq, Q5, Ql]; simp)) (fun _ => Stp.fin (L1 _))
end
end Go.Av
namespace Go.Av
noncomputable section
def sh1 (e : Qn) : Qn := ⟨e.Proto, e.Kind, [], [], 0, false, false, 0, [], 0, [], 0, e.Packet, (⟨0, (⟨false, 0, false, false, false, 0⟩ : Xs), 0, 0, 0, false, 0, 0, 0, [], []⟩ : Q1f), (⟨0, 0, [], []⟩ : Yi)⟩
def sh3 (e : Qn) : Qn := ⟨e.Proto, e.Kind, [], [], 0, false, false, 0, [], 0, e.Hops, 0, (⟨0, false, false, 0, 0, [], [], false, 0, [], false, [], false, [], false, (⟨[], [], 0, false, []⟩ : Q0y), false, 0, [], [], []⟩ : Q9), e.Msg, (⟨0, 0, [], []⟩ : Yi)⟩
def sh4 (e : Qn) : Qn := ⟨e.Proto, e.Kind, [], [], 0, false, false, 0, [], 0, [], 0, (⟨0, false, false, 0, 0, [], [], false, 0, [], false, [], false, [], false, (⟨[], [], 0, false, []⟩ : Q0y), false, 0, [], [], []⟩ : Q9), (⟨0, (⟨false, 0, false, false, false, 0⟩ : Xs), 0, 0, 0, false, 0, 0, 0, [], []⟩ : Q1f), e.Frame⟩
structure Oth (e : Qn) (c : Int) : Prop where
 a : e.Proto = 1 ∨ e.Proto = 2 → (c = 0 → sh1 e = e) ∧ (sh1 e ≠ e → c = 2) ∧ (e.Packet.Kind = 0 → c ≠ 0)
 b : e.Proto = 3 → (c = 0 → sh3 e = e) ∧ (sh3 e ≠ e → c = 2)
 d : e.Proto = 4 → (c = 0 → sh4 e = e) ∧ (sh4 e ≠ e → c = 2)
 f : c = 0 → e.Proto = 1 ∨ e.Proto = 2 ∨ e.Proto = 3 ∨ e.Proto = 4
theorem Z29 : Z3s (⟨0, false, false, 0, 0, [], [], false, 0, [], false, [], false, [], false, (⟨[], [], 0, false, []⟩ : Q0y), false, 0, [], [], []⟩ : Q9) := ⟨Mm _, Mm _, Mm _, Mm _⟩
theorem Zcm : Q0.szs ([] : List Q0) < 700000000 := by decide
theorem Qsj {p : Q9} (h : Qvh p) (v : Int) : TotP (fun N => Uc N v p) (fun r => p.Kind = 0 → r ≠ 0) := by
 by_cases k : p.Kind = 0
 ·exact (Qtb v k).mono fun _ h _ => h
 exact (Qwy h v).mono fun _ _ h => absurd h k
theorem Qrp (e : Qn) (l : Ya) (h : LE e) : TotP (fun N => Q38 N e l) (Oth e) := by
 have hm : 30 ≤ maxLen := by unfold maxLen; decide
 unfold Q38;simp only [Q8q]
 have one : ∀ v : Int, (e.Proto = 1 ∨ e.Proto = 2) → TotP (fun N => (Wl N (sh1 e) e).bind fun v2 => cond (!v2) (some 2) (cond (decide (e.Packet.Kind = 3)) (some 2) ((Uc N v e.Packet).bind fun v6 => some v6))) (Oth e) := by
  intro v hp;have two : (sh1 e ≠ e ∨ e.Packet.Kind = 3) → Oth e 2 := fun _ => ⟨fun _ => ⟨fun h => absurd h (by decide), fun _ => rfl, fun _ => by decide⟩, fun _ => by omega, fun _ => by omega, fun h => absurd h (by decide)⟩;refine TotP.bind (Q0z (sh1 e) e ⟨Mm _, Mm _, h.pk.l, Zcm⟩) (fun w hw => ?_);refine TotP.cond (fun g => .ret (two (.inl (fun q => by rw [hw.2 q] at g; cases g)))) (fun g => ?_);have hs := hw.1 (by simpa using g);refine TotP.cond (fun g => .ret (two (.inr (of_decide_eq_true g)))) (fun _ => ?_);exact TotP.bind (Qsj h.pk v) (fun c hc => .ret ⟨fun _ => ⟨fun _ => hs, fun q => absurd hs q, hc⟩, fun _ => by omega, fun _ => by omega, fun _ => by omega⟩)
 refine TotP.cond (fun g => one 4 (.inl (of_decide_eq_true g))) (fun n1 => ?_);refine TotP.cond (fun g => one 5 (.inr (of_decide_eq_true g))) (fun n2 => ?_);have n1 := of_decide_eq_false n1; have n2 := of_decide_eq_false n2;refine TotP.cond (fun g => ?_) (fun n3 => ?_)
 ·have hp := of_decide_eq_true g;have two : Oth e 2 := ⟨fun _ => by omega, fun _ => ⟨fun h => absurd h (by decide), fun _ => rfl⟩, fun _ => by omega, fun h => absurd h (by decide)⟩;refine TotP.bind (Q0z (sh3 e) e ⟨Mm _, Mt h.dg.hops hm, Z29, Zcm⟩) (fun w hw => ?_);refine TotP.cond (fun _ => .ret two) (fun g => ?_);have hs := hw.1 (by simpa using g);refine TotP.cond (fun _ => .ret two) (fun _ => ?_);exact TotP.bind (Qkw h.dg l) (fun c _ => .ret ⟨fun _ => by omega, fun _ => ⟨fun _ => hs, fun q => absurd hs q⟩, fun _ => by omega, fun _ => by omega⟩)
 have n3 := of_decide_eq_false n3;refine TotP.cond (fun g => ?_) (fun n4 => .ret ⟨fun _ => by omega, fun _ => by omega, fun _ => ⟨fun h => absurd h (by decide), fun _ => rfl⟩, fun h => absurd h (by decide)⟩);have hp := of_decide_eq_true g;have two : Oth e 2 := ⟨fun _ => by omega, fun _ => by omega, fun _ => ⟨fun h => absurd h (by decide), fun _ => rfl⟩, fun h => absurd h (by decide)⟩;have hz : Q0.szs e.Frame.Values < 700000000 := Nat.lt_trans h.fb.sz (by decide);refine TotP.bind (Q0z (sh4 e) e ⟨Mm _, Mm _, Z29, hz⟩) (fun w hw => ?_);refine TotP.cond (fun _ => .ret two) (fun g => ?_);have hs := hw.1 (by simpa using g);refine TotP.bind (Qv2 e.Frame h.fb.sz) (fun v hv => ?_);refine TotP.bind (f := fun N => Xq N e.Frame v) (V := fun _ => True) ⟨_, trivial, 800000000, fun N hN => Qg5 hN _ _ hz⟩ (fun u _ => ?_);refine TotP.cond (fun _ => .ret two) (fun _ => ?_);exact TotP.bind (Qqj e.Frame l h.fb.sz) (fun c _ => .ret ⟨fun _ => by omega, fun _ => by omega, fun _ => ⟨fun _ => hs, fun q => absurd hs q⟩, fun _ => by omega⟩)
structure At (e : Qn) (l : Ya) (t b r : Bool) (v : Int) : Prop where
 t : Tot (fun N => U7 N e) t
 b : Tot (fun N => Jf N e) b
 v : Tot (fun N => Zy N 3 e.Props) v
 r : Tot (fun N => Q15 N l) r
theorem Qr4 (e : Qn) (h : LE e) : Any (fun N => U7 N e) := by
 have hm := ml2; have ht := h.topic;have hs : Any (fun N => Q2q N e.Topic) := Quj _ (by omega);have hw : ∀ l, Any (fun N => Ua N (⟨e.Hops, (⟨23, (⟨false, 0, false, false, false, 0⟩ : Xs), 0, 0, 0, false, 0, 0, 0, [], []⟩ : Q1f)⟩ : W1) l) := fun l => Qkw (d := ⟨e.Hops, (⟨23, (⟨false, 0, false, false, false, 0⟩ : Xs), 0, 0, 0, false, 0, 0, 0, [], []⟩ : Q1f)⟩) ⟨h.dg.hops, h.dg.node, ⟨Mm _, Mm _⟩⟩ l;unfold U7;refine TotP.bind (V := fun _ => True) ⟨_, trivial, .of fun N => Qoi N _ _ _⟩ (fun _ _ => ?_);refine TotP.cond (fun _ => .ret trivial) (fun _ => ?_);refine TotP.bind hs (fun _ _ => ?_);refine TotP.cond (fun _ => TotP.cond (fun _ => .ret trivial) (fun _ => ?_)) (fun _ => ?_)
 ·refine TotP.bindE (.of fun _ => rfl) ?_;exact TotP.bind (hw _) (fun _ _ => .ret trivial)
 refine TotP.bindE (.of fun _ => rfl) ?_;exact TotP.bind (hw _) (fun _ _ => .ret trivial)
theorem Qs8 (e : Qn) (h : LE e) : Any (fun N => Jf N e) := by
 have h1 := Q9l h.pk (⟨0, false, false, 0, 0, [], [], false, 0, [], false, [], false, [], false, (⟨[], [], 0, false, []⟩ : Q0y), false, 0, [], [], []⟩ : Q9);have h2 : Any (fun N => Xq N e.Frame (⟨0, 0, [], []⟩ : Yi)) := ⟨_, trivial, 800000000, fun N hN => Qg5 hN _ _ (Nat.lt_trans h.fb.sz (by decide))⟩;unfold Jf;refine TotP.bind h1 (fun _ _ => ?_);refine TotP.cond (fun _ => ?_) (fun _ => .ret trivial);refine TotP.cond (fun _ => ?_) (fun _ => .ret trivial);exact TotP.bind h2 (fun _ _ => .ret trivial)
theorem Qqr (l : Ya) : Any (fun N => Q15 N l) := by
 unfold Q15
 repeat' first
  | exact TotP.ret trivial
  | refine TotP.cond (fun _ => ?_) (fun _ => ?_)
theorem Z4x (e : Qn) (l : Ya) (h : LE e) : ∃ t b r v, At e l t b r v := by
 obtain ⟨t, _, ht⟩ := Qr4 e h;obtain ⟨b, _, hb⟩ := Qs8 e h;obtain ⟨v, _, hv⟩ := Q9d 3 e.Props h.props;obtain ⟨r, _, hr⟩ := Qqr l;exact ⟨t, b, r, v, ht, hb, hv, hr⟩
def cq (e : Qn) : Bool := cond (decide (e.QoS = 1)) true (decide (e.QoS = 2))
structure Ck (e : Qn) (l : Ya) (t b r : Bool) (v c : Int) : Prop where
 zero : c = 0 → r = true
 pub0 : e.Kind = 1 → c = 0 → Qrs e.Topic = true ∧ v = 0 ∧ PubT e (cq e) t b ∧ (e.Payload.length : Int) ≤ l.MaxPacket
 pub1 : e.Kind = 1 → r = true → Qrs e.Topic = true → v = 0 → PubT e (cq e) t b → (e.Payload.length : Int) ≤ l.MaxPacket → c = 0
 pub2 : e.Kind = 1 → r = true → Qrs e.Topic = true → ¬ PubT e (cq e) t b → c = 2
 oth : e.Kind = 2 → r = true → Oth e c
 no : c = 0 → e.Kind = 1 ∨ e.Kind = 2
theorem Z0e {e : Qn} {w t b : Bool} {v : Int} {N1 N2 N3 N4 : Nat} (hn : ∀ N, N1 ≤ N → Zf N e.Topic = some w) (ht : ∀ N, N2 ≤ N → U7 N e = some t) (hb : ∀ N, N3 ≤ N → Jf N e = some b) (hv : ∀ N, N4 ≤ N → Zy N 3 e.Props = some v) :
  ∃ p N0, ∀ N, N0 ≤ N → Uu N e = some p := by
 have hN : Tot (fun N => Zf N e.Topic) w := ⟨N1, hn⟩;have hT : Tot (fun N => U7 N e) t := ⟨N2, ht⟩;have hB : Tot (fun N => Jf N e) b := ⟨N3, hb⟩;have hV : Tot (fun N => Zy N 3 e.Props) v := ⟨N4, hv⟩
 have j : ∀ c, Any (fun N => Vj N e c) := fun c => by
  unfold Vj J7 Vv Jh J8 Jj;simp only [Qx0, Qoi, Li];refine TotP.cond (fun _ => .ret trivial) (fun _ => TotP.cond (fun _ => .ret trivial) (fun _ => ?_));refine TotP.bindE hN ?_
  repeat' first
   | exact TotP.ret trivial
   | refine TotP.cond (fun _ => ?_) (fun _ => ?_)
   | refine TotP.bindE hT ?_
   | refine TotP.bindE hB ?_
   | refine TotP.bindE hV ?_
 have : Any (fun N => Uu N e) := by
  unfold Uu;exact TotP.cond (fun _ => j _) (fun _ => j _)
 obtain ⟨p, _, N0, hp⟩ := this;exact ⟨p, N0, hp⟩
end
end Go.Av
namespace Go.Av
noncomputable section
theorem Z4k {e : Qn} (h : Qes e) : OkE e := ⟨h.Topic_ok, h.Props_ok.1, h.Packet_ok.Filters_ok.1, h.Packet_ok.Props_ok.1, h.Packet_ok.Will_ok.Props_ok.1⟩
end
end Go.Av
namespace Go.Av
noncomputable section
section
variable {T : Type}
def Chd (ne : T → T → Prop) (o : List T) (i : Nat) (l : List T) : Prop := l.length = o.length ∧ ∀ (j : Nat) x y, l[j]? = some x → o[j]? = some y → (j < i → ne x y) ∧ (i ≤ j → x = y)
theorem Chd.start {ne : T → T → Prop} (o : List T) : Chd ne o 0 o := ⟨rfl, fun j x y h1 h2 => ⟨fun h => by omega, fun _ => by rw [h1] at h2; exact Option.some.inj h2⟩⟩
theorem Chd.step {ne : T → T → Prop} {o l : List T} {i : Nat} (h : Chd ne o i l) (hi : i < l.length) {v : T} (hv : ne v l[i]) : Chd ne o (i + 1) (l.set i v) := by
 refine ⟨by rw [Ns]; exact h.1, fun j x y h1 h2 => ?_⟩
 by_cases e : i = j
 ·subst e;rw [Mc hi] at h1;have := (h.2 i l[i] y (Ld hi) h2).2 (Lp _);cases h1;exact ⟨fun _ => this ▸ hv, fun h => by omega⟩
 rw [Lq e] at h1;have := h.2 j x y h1 h2;exact ⟨fun h => this.1 (by omega), fun h => this.2 (by omega)⟩
theorem Chd.eq {ne : T → T → Prop} (hne : ∀ x y, ne x y → x ≠ y) {o l : List T} (h : Chd ne o o.length l) : l = o ↔ l.length = 0 := by
 constructor
 ·intro e
  cases hl : l with
  | nil => rfl
  | cons x r =>
   have h1 : l[0]? = some x := by rw [hl]; rfl
   have h2 : o[0]? = some x := by rw [← e]; exact h1
   have h3 : 0 < o.length := (Lb.1 h2).1;exact absurd rfl (hne _ _ ((h.2 0 x x h1 h2).1 h3))
 intro e;have h1 := h.1;rw [Nu.1 e];exact (Nu.1 (by omega)).symm
end
theorem Qff (k : Int) : wrap .i64 (k + 1) ≠ k := by rw [IntKind.wrap_i64]; omega
def nP (x y : Qc) : Prop := x ≠ y
def nH (x y : Vi) : Prop := x ≠ y
def nF (x y : Qe) : Prop := x ≠ y
def nI (x y : Int) : Prop := x ≠ y
def nV (x y : Q0) : Prop := x ≠ y ∧ x.sz = y.sz
theorem Qom : ∀ {l o : List Q0}, l.length = o.length → (∀ (j : Nat) x y, l[j]? = some x → o[j]? = some y → x.sz = y.sz) → Q0.szs l = Q0.szs o
 | [], [], _, _ => rfl
 | [], _ :: _, h, _ => by simp at h
 | _ :: _, [], h, _ => by simp at h
 | x :: l, y :: o, h, g => by
  simp only [Q0.szs];rw [g 0 x y rfl rfl, Qom (l := l) (o := o) (by simpa using h) fun j x y h1 h2 => g (j + 1) x y (by simpa using h1) (by simpa using h2)]
theorem Qel (n : Int) (h : -9223372036854775808 ≤ n ∧ n ≤ 9223372036854775807) : TotP (fun N => Jn N n) (fun v => v.length ≤ 21) := by
 refine TotP.chk (by simp [h.1, h.2]) (.ret (Go.Lib.itoa_length_le n h.1 h.2))
theorem Qro (e : Qn) (L : LE e) (hq : -9223372036854775808 ≤ e.QoS ∧ e.QoS ≤ 9223372036854775807) : Any (fun N => Q4c N e) := by
 have ht := L.topic; have hp := L.payload
 have nb : ∀ a b : Nat, a ≤ b → Nat.ble a b = true := fun a b h => by rw [Lk]; exact h
 refine TotP.optC (fun m hm => ?_) (fun _ => ?_)
 ·have hl : m.text.length ≤ 10 := by
   unfold Vx at hm;simp only [Q7c] at hm
   repeat' first
    | (cases hm; done)
    | (cases hm; decide)
    | (cases h1 : (e.Proto == 1) <;> simp only [h1, cond_true, cond_false] at hm)
    | (cases h2 : (e.Proto == 2) <;> simp only [h2, cond_true, cond_false] at hm)
    | (cases h3 : (e.Proto == 3) <;> simp only [h3, cond_true, cond_false] at hm)
    | (cases h4 : (e.Proto == 4) <;> simp only [h4, cond_true, cond_false] at hm)
  refine TotP.cond (fun _ => TotP.chk (nb _ _ (by simp only [Lj, Ll]; omega)) (.ret trivial)) (fun _ => ?_);refine TotP.chk (nb _ _ (by simp only [Lj, Ll]; omega)) (TotP.bind (Qel _ hq) (fun v hv => ?_))
  iterate 4 refine TotP.chk (nb _ _ (by simp only [Lj, Ll, Lg]; omega)) ?_
  refine TotP.bind (Qel (e.Payload.length : Int) (by omega)) (fun w hw => ?_);refine TotP.chk (nb _ _ (by simp only [Lj, Ll, Lg]; omega)) (TotP.cond (fun _ => ?_) (fun _ => .ret trivial));exact TotP.chk (nb _ _ (by simp only [Lj, Ll, Lg]; omega)) (.ret trivial)
 refine TotP.cond (fun _ => .ret trivial) (fun _ => TotP.bind (Qel _ hq) (fun v hv => ?_))
 iterate 4 refine TotP.chk (nb _ _ (by simp only [Lj, Ll, Lg]; omega)) ?_
 refine TotP.bind (Qel (e.Payload.length : Int) (by omega)) (fun w hw => ?_);refine TotP.chk (nb _ _ (by simp only [Lj, Ll, Lg]; omega)) (TotP.cond (fun _ => ?_) (fun _ => .ret trivial));exact TotP.chk (nb _ _ (by simp only [Lj, Ll, Lg]; omega)) (.ret trivial)
theorem Qqa (e : Qn) (l : Ya) (L : LE e) : Any (fun N => Q31 N e l) := by
 obtain ⟨t, b, r, v, a⟩ := Z4x e l L;have hm := ml2; have hT := L.topic;obtain ⟨N1, hn⟩ := Q7b e.Topic (by omega);obtain ⟨N2, ht⟩ := a.t; obtain ⟨N3, hb⟩ := a.b; obtain ⟨N4, hv⟩ := a.v;obtain ⟨p, N0, hp⟩ := Z0e (e := e) hn ht hb hv;refine TotP.bindE a.r (TotP.cond (fun _ => .ret trivial) (fun _ => TotP.cond (fun _ => ?_) (fun _ => TotP.cond (fun _ => TotP.bind (Qrp e l L) (fun _ _ => .ret trivial)) (fun _ => .ret trivial))));exact TotP.bindE (f := fun N => Uu N e) (v := p) ⟨N0, hp⟩ (TotP.cond (fun _ => .ret trivial) (fun _ => TotP.cond (fun _ => .ret trivial) (fun _ => .ret trivial)))
theorem Qy9 (e : Qn) (l : Ya) (he : Qes e) : ∃ N, X9 N e l = some true := by
 have key : TotP (fun N => X9 N e l) (· = true) := by
  unfold X9;refine TotP.bind (V := fun v => v = true → LE e) ?_ (fun v1 g1 => ?_)
  ·exact TotP.bind (Qyb e (Z4k he) he.Frame_ok.Values_ok.2) (fun v h => .ret h)
  refine TotP.cond (fun _ => .ret rfl) (fun n1 => ?_);have L := g1 (by simpa using n1)
  have hm : 100000 ≤ maxLen := by unfold maxLen; decide
  have hP : e.Props.length ≤ 100000 := by have := L.props.len; omega
  have hH : e.Hops.length ≤ 100000 := by have : e.Hops.length ≤ 30 := L.dg.hops; omega
  have hF : e.Packet.Filters.length ≤ 100000 := by have := L.pk.filters.1; omega
  have hC : e.Packet.Codes.length ≤ 100000 := by have := L.pk.codes; omega
  have hz := L.fb.sz;have hV := Q0.szs_len e.Frame.Values
  have sm : ∀ (lP : List Qc) (lH : List Vi) (lF : List Qe) (lC : List Int) (lV : List Q0), lP.length = e.Props.length → lH.length = e.Hops.length → lF.length = e.Packet.Filters.length → lC.length = e.Packet.Codes.length → Q0.szs lV = Q0.szs e.Frame.Values →
    Z4t (⟨e.Proto, e.Kind, e.Topic, e.Payload, e.QoS, e.Retain, e.Dup, e.ID, lP, e.Type', lH, e.Channel, ⟨e.Packet.Kind, e.Packet.Dup, e.Packet.Retain, e.Packet.QoS, e.Packet.ID, e.Packet.Topic, e.Packet.Payload, e.Packet.Clean, e.Packet.KeepAlive, e.Packet.Client, e.Packet.HasUser, e.Packet.User, e.Packet.HasPass, e.Packet.Pass, e.Packet.HasWill, e.Packet.Will, e.Packet.Session, e.Packet.Code, lC, lF, e.Packet.Props⟩, e.Msg, ⟨e.Frame.Type', e.Frame.Channel, e.Frame.Ext, lV⟩⟩ : Qn) := fun lP lH lF lC lV h1 h2 h3 h4 h5 => by
   have := L.pk.l;exact ⟨by show lP.length ≤ _; omega, by show lH.length ≤ _; omega, ⟨by show lC.length ≤ _; omega, by show lF.length ≤ _; omega, this.3, this.4⟩, by show Q0.szs lV < _; omega⟩
  have se : Z4t e := sm e.Props e.Hops e.Packet.Filters e.Packet.Codes e.Frame.Values rfl rfl rfl rfl rfl;refine TotP.bindE (Qop e L) (TotP.bindE (Qop e L) ?_);refine TotP.bind (Q0z e e se) (fun v8 h8 => TotP.cond (fun g => absurd g (by rw [h8.2 rfl]; simp)) (fun _ => ?_));obtain ⟨c, _, hc⟩ := Qqa e l L;refine TotP.bindE hc (TotP.bindE hc ?_);rw [Q6n];refine TotP.cond (fun g => absurd rfl (of_decide_eq_true g)) (fun _ => ?_);obtain ⟨x, _, hx⟩ := Qro e L he.QoS_ok;refine TotP.bindE hx (TotP.bindE hx ?_);rw [Qpd];refine TotP.cond (fun g => absurd rfl (of_decide_eq_true g)) (fun _ => ?_)
  have s4 : ∀ lP lH lF lC, Chd nP e.Props e.Props.length lP → Chd nH e.Hops e.Hops.length lH → Chd nF e.Packet.Filters e.Packet.Filters.length lF → Chd nI e.Packet.Codes e.Packet.Codes.length lC →
    TotP (fun N => Z0 N e e e lP lH lF lC N 0 e.Frame.Values) (· = true) := fun lP lH lF lC c1 c2 c3 c4 => by
   refine Qud (L := fun N n s a => Z0 N e e e lP lH lF lC n s a) e.Frame.Values.length (fun i a => Chd nV e.Frame.Values i a) (fun i a hi hj => ?_) (fun a hj => ?_) _ (.start _)
   ·have ha : i < a.length := by rw [hj.1]; exact hi
    show Stp _ _ _ (fun N n => cond (Q3 .lss (i : Int) (a.length : Int)) _ _);refine Stp.cond (fun _ => Stp.idx (Qp ha) (Stp.idx (Qp ha) ?_)) (fun h => absurd h (by rw [Ql]; simp [ha]));rw [w64 ((i : Int) + 1) (by omega)];refine Stp.go (L := fun N n (p : Int × List Q0) => Z0 N e e e lP lH lF lC n p.1 p.2) (_, _) ⟨by simp only; omega, hj.step ha ⟨fun q => ?_, by rw [Q0.sz_eq, Q0.sz_eq a[i]]⟩⟩;exact Qff _ (congrArg Q0.Kind q)
   show Stp _ _ _ (fun N n => cond (Q3 .lss (e.Frame.Values.length : Int) (a.length : Int)) _ _);refine Stp.cond (fun h => absurd h (by rw [Ql, hj.1]; simp)) (fun _ => Stp.fin ?_);refine TotP.bind (Q0z e e se) (fun w hw => TotP.cond (fun _ => ?_) (fun g => absurd g (by rw [hw.2 rfl]; simp)));have hs : Q0.szs a = Q0.szs e.Frame.Values := Qom hj.1 fun j x y h1 h2 => ((hj.2 j x y h1 h2).1 (Lb.1 h2).1).2;refine TotP.bind (Q0z _ e (sm lP lH lF lC a c1.1 c2.1 c3.1 c4.1 hs)) (fun u hu => .ret ?_);have l1 := c1.1; have l2 := c2.1; have l3 := c3.1; have l4 := c4.1; have l5 := hj.1;have e1 := c1.eq (fun _ _ h => h); have e2 := c2.eq (fun _ _ h => h); have e3 := c3.eq (fun _ _ h => h); have e4 := c4.eq (fun _ _ h => h); have e5 := hj.eq (fun _ _ h => h.1);rw [w64 ((lP.length : Int) + lH.length) (by omega), w64 ((lP.length : Int) + lH.length + lF.length) (by omega), w64 ((lP.length : Int) + lH.length + lF.length + lC.length) (by omega), w64 ((lP.length : Int) + lH.length + lF.length + lC.length + a.length) (by omega), Q6g]
   by_cases z : (lP.length : Int) + lH.length + lF.length + lC.length + a.length > 0
   ·have : u = false := by
     cases hb : u with
     | false => rfl
     | true =>
      have q := hu.1 hb;have q1 := e1.1 (congrArg Qn.Props q); have q2 := e2.1 (congrArg Qn.Hops q); have q3 := e3.1 (congrArg (fun x => x.Packet.Filters) q); have q4 := e4.1 (congrArg (fun x => x.Packet.Codes) q); have q5 := e5.1 (congrArg (fun x => x.Frame.Values) q);omega
    rw [this, decide_eq_true z]; rfl
   have : u = true := hu.2 (by
    rw [e1.2 (by omega), e2.2 (by omega), e3.2 (by omega), e4.2 (by omega), e5.2 (by omega)])
   rw [this, decide_eq_false z]; rfl
  have s3 : ∀ lP lH lF, Chd nP e.Props e.Props.length lP → Chd nH e.Hops e.Hops.length lH → Chd nF e.Packet.Filters e.Packet.Filters.length lF →
    TotP (fun N => Qz N e e e lP lH lF N 0 e.Packet.Codes) (· = true) := fun lP lH lF c1 c2 c3 => by
   refine Qud (L := fun N n s a => Qz N e e e lP lH lF n s a) e.Packet.Codes.length (fun i a => Chd nI e.Packet.Codes i a) (fun i a hi hj => ?_) (fun a hj => ?_) _ (.start _)
   ·have ha : i < a.length := by rw [hj.1]; exact hi
    show Stp _ _ _ (fun N n => cond (Q3 .lss (i : Int) (a.length : Int)) _ _);refine Stp.cond (fun _ => Stp.idx (Qp ha) (Stp.idx (Qp ha) ?_)) (fun h => absurd h (by rw [Ql]; simp [ha]));rw [w64 ((i : Int) + 1) (by omega)];exact Stp.go (L := fun N n (p : Int × List Int) => Qz N e e e lP lH lF n p.1 p.2) (_, _) ⟨by simp only; omega, hj.step ha (Qff _)⟩
   show Stp _ _ _ (fun N n => cond (Q3 .lss (e.Packet.Codes.length : Int) (a.length : Int)) _ _);exact Stp.cond (fun h => absurd h (by rw [Ql, hj.1]; simp)) (fun _ => Stp.fin (s4 lP lH lF a c1 c2 c3 hj))
  have s2 : ∀ lP lH, Chd nP e.Props e.Props.length lP → Chd nH e.Hops e.Hops.length lH →
    TotP (fun N => Z1 N e e e lP lH N 0 e.Packet.Filters) (· = true) := fun lP lH c1 c2 => by
   refine Qud (L := fun N n s a => Z1 N e e e lP lH n s a) e.Packet.Filters.length (fun i a => Chd nF e.Packet.Filters i a) (fun i a hi hj => ?_) (fun a hj => ?_) _ (.start _)
   ·have ha : i < a.length := by rw [hj.1]; exact hi
    show Stp _ _ _ (fun N n => cond (Q3 .lss (i : Int) (a.length : Int)) _ _);refine Stp.cond (fun _ => Stp.idx (Qp ha) (Stp.idx (Qp ha) ?_)) (fun h => absurd h (by rw [Ql]; simp [ha]));rw [w64 ((i : Int) + 1) (by omega)];exact Stp.go (L := fun N n (p : Int × List Qe) => Z1 N e e e lP lH n p.1 p.2) (_, _) ⟨by simp only; omega, hj.step ha (fun q => Qff _ (congrArg Qe.QoS q))⟩
   show Stp _ _ _ (fun N n => cond (Q3 .lss (e.Packet.Filters.length : Int) (a.length : Int)) _ _);exact Stp.cond (fun h => absurd h (by rw [Ql, hj.1]; simp)) (fun _ => Stp.fin (s3 lP lH a c1 c2 hj))
  have s1 : ∀ lP, Chd nP e.Props e.Props.length lP → TotP (fun N => Z2 N e e e lP N 0 e.Hops) (· = true) := fun lP c1 => by
   refine Qud (L := fun N n s a => Z2 N e e e lP n s a) e.Hops.length (fun i a => Chd nH e.Hops i a) (fun i a hi hj => ?_) (fun a hj => ?_) _ (.start _)
   ·have ha : i < a.length := by rw [hj.1]; exact hi
    show Stp _ _ _ (fun N n => cond (Q3 .lss (i : Int) (a.length : Int)) _ _);refine Stp.cond (fun _ => Stp.idx (Qp ha) (Stp.idx (Qp ha) ?_)) (fun h => absurd h (by rw [Ql]; simp [ha]));rw [w64 ((i : Int) + 1) (by omega)];exact Stp.go (L := fun N n (p : Int × List Vi) => Z2 N e e e lP n p.1 p.2) (_, _) ⟨by simp only; omega, hj.step ha (fun q => Qff _ (congrArg Vi.Radius q))⟩
   show Stp _ _ _ (fun N n => cond (Q3 .lss (e.Hops.length : Int) (a.length : Int)) _ _);exact Stp.cond (fun h => absurd h (by rw [Ql, hj.1]; simp)) (fun _ => Stp.fin (s2 lP a c1 hj))
  refine Qud (L := fun N n s a => Zi N e e e n s a) e.Props.length (fun i a => Chd nP e.Props i a) (fun i a hi hj => ?_) (fun a hj => ?_) _ (.start _)
  ·have ha : i < a.length := by rw [hj.1]; exact hi
   show Stp _ _ _ (fun N n => cond (Q3 .lss (i : Int) (a.length : Int)) _ _);refine Stp.cond (fun _ => Stp.idx (Qp ha) (Stp.idx (Qp ha) ?_)) (fun h => absurd h (by rw [Ql]; simp [ha]));rw [w64 ((i : Int) + 1) (by omega)];exact Stp.go (L := fun N n (p : Int × List Qc) => Zi N e e e n p.1 p.2) (_, _) ⟨by simp only; omega, hj.step ha (fun q => Qff _ (congrArg Qc.ID q))⟩
  show Stp _ _ _ (fun N n => cond (Q3 .lss (e.Props.length : Int) (a.length : Int)) _ _);exact Stp.cond (fun h => absurd h (by rw [Ql, hj.1]; simp)) (fun _ => Stp.fin (s1 a hj))
 obtain ⟨N, hN⟩ := key.tot;exact ⟨N, hN N (Lp _)⟩
end
end Go.Av
