/- Part of the proof of EventOwn: for every input the law returns true; no condition. -/
import Derived.Test.YtnbdhlnkhdhohaaGreatDoorAvOwn
import Derived.Test.YtnbdhlnkhdhohaaGreatDoorRound
import Derived.Test.YtnbdhlnkhdhohaaGreatDoorLiftF5
import Derived.Test.YtnbdhlnkhdhohaaGreatDoorPlainb
namespace Go.Av
noncomputable section
section
variable {R A S T : Type}
def Tot (f : Nat → Option R) (r : R) : Prop := ∃ N0, ∀ N, N0 ≤ N → f N = some r
def TotP (f : Nat → Option R) (Q : R → Prop) : Prop := ∃ r, Q r ∧ Tot f r
theorem Tot.of {f : Nat → Option R} {r : R} (h : ∀ N, f N = some r) : Tot f r := ⟨0, fun N _ => h N⟩
theorem Tot.ret (r : R) : Tot (fun _ => some r) r := .of fun _ => rfl
theorem Tot.bind {f : Nat → Option A} {g : Nat → A → Option R} {v : A} {r : R} (h1 : Tot f v) (h2 : Tot (fun N => g N v) r) : Tot (fun N => (f N).bind (g N)) r := by
 obtain ⟨a, ha⟩ := h1;obtain ⟨b, hb⟩ := h2;exact ⟨max a b, fun N hN => by show (f N).bind (g N) = _; rw [ha N (by omega)]; exact hb N (by omega)⟩
theorem TotP.of {f : Nat → Option R} {r : R} {Q : R → Prop} (hq : Q r) (h : Tot f r) : TotP f Q := ⟨r, hq, h⟩
theorem TotP.ret {r : R} {Q : R → Prop} (h : Q r) : TotP (fun _ => some r) Q := ⟨r, h, .ret r⟩
theorem TotP.mono {f : Nat → Option R} {Q Q' : R → Prop} (h : TotP f Q) (hq : ∀ r, Q r → Q' r) : TotP f Q' := by
 obtain ⟨r, h1, h2⟩ := h; exact ⟨r, hq r h1, h2⟩
theorem TotP.tot {f : Nat → Option R} {r : R} (h : TotP f (· = r)) : Tot f r := by obtain ⟨x, rfl, h2⟩ := h; exact h2
theorem TotP.bind {f : Nat → Option A} {g : Nat → A → Option R} {V : A → Prop} {Q : R → Prop} (h1 : TotP f V) (h2 : ∀ v, V v → TotP (fun N => g N v) Q) : TotP (fun N => (f N).bind (g N)) Q := by
 obtain ⟨v, hv, t⟩ := h1;obtain ⟨r, hr, u⟩ := h2 v hv;exact ⟨r, hr, t.bind u⟩
theorem TotP.bindE {f : Nat → Option A} {g : Nat → A → Option R} {v : A} {Q : R → Prop} (h1 : Tot f v) (h2 : TotP (fun N => g N v) Q) : TotP (fun N => (f N).bind (g N)) Q := by
 obtain ⟨r, hr, u⟩ := h2;exact ⟨r, hr, h1.bind u⟩
theorem TotP.cond {b : Bool} {f g : Nat → Option R} {Q : R → Prop} (h1 : b = true → TotP f Q) (h2 : b = false → TotP g Q) : TotP (fun N => cond b (f N) (g N)) Q := by
 cases b
 ·exact h2 rfl
 exact h1 rfl
theorem TotP.chk {b : Bool} {f : Nat → Option R} {Q : R → Prop} (hb : b = true) (h : TotP f Q) : TotP (fun N => _root_.cond b (f N) none) Q := by subst hb; exact h
theorem TotP.idx {l : List T} {i : Int} {y : T} {g : Nat → T → Option R} {Q : R → Prop} (h : idx l i = some y) (h2 : TotP (fun N => g N y) Q) : TotP (fun N => (Go.Av.idx l i).bind (g N)) Q :=
 .bindE (.of fun _ => h) h2
theorem TotP.optC {o : Option T} {f : Nat → T → Option R} {z : Nat → Option R} {Q : R → Prop} (h1 : ∀ v, o = some v → TotP (fun N => f N v) Q) (h2 : o = none → TotP z Q) : TotP (fun N => Go.Av.optC o (f N) (z N)) Q := by
 cases o with
 | none => exact h2 rfl
 | some v => exact h1 v rfl
def Stp (L : Nat → Nat → S → Option R) (P : S → Prop) (Q : R → Prop) (f : Nat → Nat → Option R) : Prop :=
 (∃ r N0, Q r ∧ ∀ N n, N0 ≤ N → f N n = some r) ∨ ∃ s N0, P s ∧ ∀ N n, N0 ≤ N → f N n = L N n s
section
variable {L : Nat → Nat → S → Option R} {P : S → Prop} {Q : R → Prop}
theorem Stp.fin {f : Nat → Option R} (h : TotP f Q) : Stp L P Q (fun N _ => f N) := by
 obtain ⟨r, h1, N0, h2⟩ := h; exact .inl ⟨r, N0, h1, fun N _ hN => h2 N hN⟩
theorem Stp.ret {r : R} (h : Q r) : Stp L P Q (fun _ _ => some r) := .inl ⟨r, 0, h, fun _ _ _ => rfl⟩
theorem Stp.go (s : S) (h : P s) : Stp L P Q (fun N n => L N n s) := .inr ⟨s, 0, h, fun _ _ _ => rfl⟩
theorem Stp.bind {f : Nat → Option A} {g : Nat → Nat → A → Option R} {V : A → Prop} (h1 : TotP f V) (h2 : ∀ v, V v → Stp L P Q (fun N n => g N n v)) : Stp L P Q (fun N n => (f N).bind (g N n)) := by
 obtain ⟨v, hv, a, ha⟩ := h1
 rcases h2 v hv with ⟨r, b, hr, hb⟩ | ⟨s, b, hs, hb⟩
 ·exact .inl ⟨r, max a b, hr, fun N n hN => by show (f N).bind _ = _; rw [ha N (by omega)]; exact hb N n (by omega)⟩
 exact .inr ⟨s, max a b, hs, fun N n hN => by show (f N).bind _ = _; rw [ha N (by omega)]; exact hb N n (by omega)⟩
theorem Stp.idx {l : List T} {i : Int} {y : T} {g : Nat → Nat → T → Option R} (h : idx l i = some y) (h2 : Stp L P Q (fun N n => g N n y)) : Stp L P Q (fun N n => (Go.Av.idx l i).bind (g N n)) :=
 .bind (f := fun _ => Go.Av.idx l i) (V := (· = y)) ⟨y, rfl, .of fun _ => h⟩ (fun v hv => by subst hv; exact h2)
theorem Stp.cond {b : Bool} {f g : Nat → Nat → Option R} (h1 : b = true → Stp L P Q f) (h2 : b = false → Stp L P Q g) : Stp L P Q (fun N n => cond b (f N n) (g N n)) := by
 cases b
 ·exact h2 rfl
 exact h1 rfl
theorem Stp.chk {b : Bool} {f : Nat → Nat → Option R} (hb : b = true) (h : Stp L P Q f) : Stp L P Q (fun N n => _root_.cond b (f N n) none) := by subst hb; exact h
theorem Q8b (inv : S → Prop) (μ : S → Nat) (Qu : ∀ s, inv s → Stp L (fun s' => inv s' ∧ μ s' < μ s) Q (fun N n => L N (n + 1) s)) (s : S) (h : inv s) : TotP (fun N => L N N s) Q := by
 have key : ∀ (m : Nat) (s : S), μ s < m → inv s → ∃ r N0, Q r ∧ ∀ N n, N0 ≤ N → N0 ≤ n → L N n s = some r := by
  intro m
  induction m with
  | zero => intro s h; omega
  | succ m ih =>
   intro s hm hi
   rcases Qu s hi with ⟨r, N0, hr, hL⟩ | ⟨s', N0, ⟨h1, h2⟩, hL⟩
   ·refine ⟨r, N0 + 1, hr, fun N n h1 h2 => ?_⟩;obtain ⟨k, rfl⟩ : ∃ k, n = k + 1 := ⟨n - 1, by omega⟩;exact hL N k (by omega)
   obtain ⟨r, M0, hr, hM⟩ := ih s' (by omega) h1;refine ⟨r, max N0 M0 + 1, hr, fun N n h1 h2 => ?_⟩;obtain ⟨k, rfl⟩ : ∃ k, n = k + 1 := ⟨n - 1, by omega⟩;exact (hL N k (by omega)).trans (hM N k (by omega) (by omega))
 obtain ⟨r, N0, hr, hL⟩ := key (μ s + 1) s (by omega) h;exact ⟨r, hr, N0, fun N hN => hL N N hN hN⟩
end
theorem Q3y {L : Nat → Nat → Int → Option R} {Q : R → Prop} (m : Nat) (J : Nat → Prop) (Qu : ∀ i, i < m → J i → Stp L (fun s => s = ((i + 1 : Nat) : Int) ∧ J (i + 1)) Q (fun N n => L N (n + 1) (i : Int)))
  (fin : J m → Stp L (fun _ => False) Q (fun N n => L N (n + 1) (m : Int))) (h0 : J 0) : TotP (fun N => L N N 0) Q := by
 refine Q8b (S := Int) (fun s => ∃ i : Nat, s = (i : Int) ∧ i ≤ m ∧ J i) (fun s => m - s.toNat) ?_ 0 ⟨0, rfl, Mo _, h0⟩
 rintro s ⟨i, rfl, hi, hj⟩
 by_cases h : i < m
 ·rcases Qu i h hj with ⟨r, N0, hr, hL⟩ | ⟨s', N0, ⟨rfl, h2⟩, hL⟩
  ·exact .inl ⟨r, N0, hr, hL⟩
  exact .inr ⟨_, N0, ⟨⟨i + 1, rfl, h, h2⟩, by simp only [Lt]; omega⟩, hL⟩
 have : i = m := by omega
 subst this
 rcases fin hj with ⟨r, N0, hr, hL⟩ | ⟨s', N0, h2, hL⟩
 ·exact .inl ⟨r, N0, hr, hL⟩
 exact h2.elim
end
theorem Qm (x y : Int) : Q3 .lss x y = decide (x < y) := rfl
theorem Q1z (x y : Int) : Q3 .leq x y = decide (x ≤ y) := rfl
theorem Q3h (x y : Int) : Q3 .gtr x y = decide (x > y) := rfl
theorem Q59 (x y : Int) : Q3 .geq x y = decide (x ≥ y) := rfl
theorem Q1b (x y : Int) : Q3 .eql x y = decide (x = y) := by unfold Q3; by_cases h : x = y <;> simp [h]
theorem Q1x (x y : Int) : Q3 .neq x y = decide (x ≠ y) := by unfold Q3; by_cases h : x = y <;> simp [h]
theorem w64 (x : Int) (h : -9223372036854775808 ≤ x ∧ x ≤ 9223372036854775807) : IntKind.wrap .i64 x = x := IntWalk.i64_in x h
theorem Qw {T : Type} {l : List T} {i : Nat} (h : i < l.length) : idx l (i : Int) = some l[i] := Ld h
theorem Qat : maxLen ≤ 9223372036854775807 := by unfold maxLen; decide
end
end Go.Av
namespace Go.Av
noncomputable section
def at8 (s : List UInt8) (i : Nat) : Nat := (s.getD i 0).toNat
theorem Qp6 (s : List UInt8) (i : Nat) : at8 s i < 256 := UInt8.toNat_lt _
theorem Qf7 {s : List UInt8} {i : Nat} (h : i < s.length) : at8 s i = (s[i]).toNat := by simp [at8, h]
def goes (s : List UInt8) (i : Nat) : Prop := i < s.length ∧ 128 ≤ at8 s i ∧ at8 s i < 192
instance (s : List UInt8) (i : Nat) : Decidable (goes s i) := inferInstanceAs (Decidable (_ ∧ _))
def Qil (c : Nat) : Prop := ¬ (55296 ≤ c ∧ c ≤ 57343) ∧ c ≤ 1114111
instance (c : Nat) : Decidable (Qil c) := inferInstanceAs (Decidable (_ ∧ _))
def Qem (s : List UInt8) (i : Nat) : Nat × Nat :=
 if at8 s i < 128 then (at8 s i, 1)
 else if 192 ≤ at8 s i ∧ at8 s i < 224 ∧ goes s (i + 1) ∧ 128 ≤ 64 * (at8 s i - 192) + (at8 s (i + 1) - 128) then (64 * (at8 s i - 192) + (at8 s (i + 1) - 128), 2)
 else if 224 ≤ at8 s i ∧ at8 s i < 240 ∧ goes s (i + 1) ∧ goes s (i + 2) ∧ 2048 ≤ 64 * (64 * (at8 s i - 224) + (at8 s (i + 1) - 128)) + (at8 s (i + 2) - 128) ∧ Qil (64 * (64 * (at8 s i - 224) + (at8 s (i + 1) - 128)) + (at8 s (i + 2) - 128)) then
  (64 * (64 * (at8 s i - 224) + (at8 s (i + 1) - 128)) + (at8 s (i + 2) - 128), 3)
 else if 240 ≤ at8 s i ∧ at8 s i < 248 ∧ goes s (i + 1) ∧ goes s (i + 2) ∧ goes s (i + 3) ∧ 65536 ≤ 64 * (64 * (64 * (at8 s i - 240) + (at8 s (i + 1) - 128)) + (at8 s (i + 2) - 128)) + (at8 s (i + 3) - 128) ∧
   Qil (64 * (64 * (64 * (at8 s i - 240) + (at8 s (i + 1) - 128)) + (at8 s (i + 2) - 128)) + (at8 s (i + 3) - 128)) then
  (64 * (64 * (64 * (at8 s i - 240) + (at8 s (i + 1) - 128)) + (at8 s (i + 2) - 128)) + (at8 s (i + 3) - 128), 4)
 else (65533, 1)
theorem Qka (c : Nat) : Utf8.valid (c : Int) = true ↔ Qil c := by
 unfold Utf8.valid Qil;simp only [La, Ng, Nw, decide_eq_true_eq, decide_eq_false_iff_not];omega
theorem Qwu (a b c d : Nat) (G1 G2 G3 : Prop) [Decidable G1] [Decidable G2] [Decidable G3] (h0 : a < 256) (q1 : G1 → 128 ≤ b ∧ b < 192) (q2 : G2 → 128 ≤ c ∧ c < 192) (q3 : G3 → 128 ≤ d ∧ d < 192) :
  (if a < 128 then (a, 1)
   else if (a / 32 == 6 && decide G1) = true then (if a % 32 * 64 + b % 64 ≥ 128 then (a % 32 * 64 + b % 64, 2) else (65533, 1))
   else if (a / 16 == 14 && decide G1 && decide G2) = true then (if (decide (a % 16 * 4096 + b % 64 * 64 + c % 64 ≥ 2048) && Utf8.valid ((a % 16 * 4096 + b % 64 * 64 + c % 64 : Nat) : Int)) = true then (a % 16 * 4096 + b % 64 * 64 + c % 64, 3) else (65533, 1))
   else if (a / 8 == 30 && decide G1 && decide G2 && decide G3) = true then (if (decide (a % 8 * 262144 + b % 64 * 4096 + c % 64 * 64 + d % 64 ≥ 65536) && Utf8.valid ((a % 8 * 262144 + b % 64 * 4096 + c % 64 * 64 + d % 64 : Nat) : Int)) = true then (a % 8 * 262144 + b % 64 * 4096 + c % 64 * 64 + d % 64, 4) else (65533, 1))
   else (65533, 1)) =
  (if a < 128 then (a, 1)
   else if 192 ≤ a ∧ a < 224 ∧ G1 ∧ 128 ≤ 64 * (a - 192) + (b - 128) then (64 * (a - 192) + (b - 128), 2)
   else if 224 ≤ a ∧ a < 240 ∧ G1 ∧ G2 ∧ 2048 ≤ 64 * (64 * (a - 224) + (b - 128)) + (c - 128) ∧ Qil (64 * (64 * (a - 224) + (b - 128)) + (c - 128)) then (64 * (64 * (a - 224) + (b - 128)) + (c - 128), 3)
   else if 240 ≤ a ∧ a < 248 ∧ G1 ∧ G2 ∧ G3 ∧ 65536 ≤ 64 * (64 * (64 * (a - 240) + (b - 128)) + (c - 128)) + (d - 128) ∧ Qil (64 * (64 * (64 * (a - 240) + (b - 128)) + (c - 128)) + (d - 128)) then
    (64 * (64 * (64 * (a - 240) + (b - 128)) + (c - 128)) + (d - 128), 4)
   else (65533, 1)) := by
 simp only [La, decide_eq_true_eq, beq_iff_eq, Qka, ge_iff_le];have e2 : ∀ x, Qil x = (¬ (55296 ≤ x ∧ x ≤ 57343) ∧ x ≤ 1114111) := fun x => rfl
 by_cases c1 : a < 128
 ·rw [if_pos c1, if_pos c1]
 rw [if_neg c1, if_neg c1]
 by_cases c2 : a < 192
 ·rw [if_neg (by omega), if_neg (by omega), if_neg (by omega), if_neg (by omega), if_neg (by omega), if_neg (by omega)]
 by_cases c3 : a < 224
 ·by_cases g1 : G1
  ·have := q1 g1
   have e : a % 32 * 64 + b % 64 = 64 * (a - 192) + (b - 128) := by omega
   rw [if_pos ⟨by omega, g1⟩, e]
   by_cases c4 : 128 ≤ 64 * (a - 192) + (b - 128)
   ·rw [if_pos c4, if_pos ⟨by omega, c3, g1, c4⟩]
   rw [if_neg c4, if_neg (fun h => c4 h.2.2.2), if_neg (by omega), if_neg (by omega)]
  rw [if_neg (fun h => g1 h.2), if_neg (by omega), if_neg (by omega), if_neg (fun h => g1 h.2.2.1), if_neg (by omega), if_neg (by omega)]
 rw [if_neg (by omega), if_neg (c := 192 ≤ a ∧ _) (by omega)]
 by_cases c5 : a < 240
 ·by_cases g : G1 ∧ G2
  ·have := q1 g.1;have := q2 g.2
   have e : a % 16 * 4096 + b % 64 * 64 + c % 64 = 64 * (64 * (a - 224) + (b - 128)) + (c - 128) := by omega
   rw [if_pos ⟨⟨by omega, g.1⟩, g.2⟩, e]
   by_cases c4 : 2048 ≤ 64 * (64 * (a - 224) + (b - 128)) + (c - 128) ∧ Qil (64 * (64 * (a - 224) + (b - 128)) + (c - 128))
   ·rw [if_pos c4, if_pos ⟨by omega, c5, g.1, g.2, c4⟩]
   rw [if_neg c4, if_neg (fun h => c4 h.2.2.2.2), if_neg (by omega)]
  rw [if_neg (fun h => g ⟨h.1.2, h.2⟩), if_neg (by omega), if_neg (fun h => g ⟨h.2.2.1, h.2.2.2.1⟩), if_neg (by omega)]
 rw [if_neg (by omega), if_neg (c := 224 ≤ a ∧ _) (by omega)]
 by_cases c6 : a < 248
 ·by_cases g : G1 ∧ G2 ∧ G3
  ·have := q1 g.1;have := q2 g.2.1;have := q3 g.2.2
   have e : a % 8 * 262144 + b % 64 * 4096 + c % 64 * 64 + d % 64 = 64 * (64 * (64 * (a - 240) + (b - 128)) + (c - 128)) + (d - 128) := by omega
   rw [if_pos ⟨⟨⟨by omega, g.1⟩, g.2.1⟩, g.2.2⟩, e]
   by_cases c4 : 65536 ≤ 64 * (64 * (64 * (a - 240) + (b - 128)) + (c - 128)) + (d - 128) ∧ Qil (64 * (64 * (64 * (a - 240) + (b - 128)) + (c - 128)) + (d - 128))
   ·rw [if_pos c4, if_pos ⟨by omega, c6, g.1, g.2.1, g.2.2, c4⟩]
   rw [if_neg c4, if_neg (fun h => c4 h.2.2.2.2.2)]
  rw [if_neg (fun h => g ⟨h.1.1.2, h.1.2, h.2⟩), if_neg (fun h => g ⟨h.2.2.1, h.2.2.2.1, h.2.2.2.2.1⟩)]
 rw [if_neg (by omega), if_neg (by omega)]
theorem Z1p (s : List UInt8) (j : Nat) : (decide (j < s.length) && (at8 s j / 64 == 2)) = decide (goes s j) := by
 have hk := Qp6 s j
 by_cases hg : goes s j
 ·have h4 : at8 s j / 64 = 2 := by have := hg.2; omega
  simp [hg, hg.1, h4]
 simp only [hg, decide_false, Bool.and_eq_false_iff, decide_eq_false_iff_not]
 by_cases hl : j < s.length
 ·right;simp only [beq_eq_false_iff_ne, ne_eq]
  intro h4;exact hg ⟨hl, by omega, by omega⟩
 exact .inl hl
theorem Qp9 (s : List UInt8) (i : Nat) : Qck s i = Qem s i := by
 have u : ∀ j, (s.getD j 0).toNat = at8 s j := fun _ => rfl;have := Qwu (at8 s i) (at8 s (i + 1)) (at8 s (i + 2)) (at8 s (i + 3)) (goes s (i + 1)) (goes s (i + 2)) (goes s (i + 3)) (Qp6 _ _) (fun h => h.2) (fun h => h.2) (fun h => h.2);unfold Qem;rw [← this];unfold Qck;simp only [Nt, u, Z1p];rfl
theorem Qss (s : List UInt8) (i : Nat) (h : i < s.length) : 1 ≤ (Qem s i).2 ∧ i + (Qem s i).2 ≤ s.length ∧ ((Qem s i).1 < 128 ↔ at8 s i < 128) ∧ (at8 s i < 128 → (Qem s i).1 = at8 s i ∧ (Qem s i).2 = 1) ∧
  (∀ k, 1 ≤ k → k < (Qem s i).2 → 128 ≤ at8 s (i + k)) ∧ Qil (Qem s i).1 := by
 have h0 := Qp6 s i;unfold Qem;split
 ·refine ⟨by simp, by simp; omega, by simp, fun _ => ⟨rfl, rfl⟩, fun k h1 h2 => by simp at h2; omega, by unfold Qil; simp; omega⟩
 split
 ·rename_i h1 h2;obtain ⟨_, _, g1, h3⟩ := h2;refine ⟨by simp, by simp; have := g1.1; omega, by simp; omega, fun h => by omega, fun k h4 h5 => ?_, by unfold Qil; simp only; have := g1.2; omega⟩
  have : k = 1 := by simp at h5; omega
  subst this; exact g1.2.1
 split
 ·rename_i h1 h2 h3;obtain ⟨_, _, g1, g2, h3, h6⟩ := h3;refine ⟨by simp, by simp; have := g2.1; omega, by simp; omega, fun h => by omega, fun k h4 h5 => ?_, h6⟩
  have : k = 1 ∨ k = 2 := by simp at h5; omega
  rcases this with rfl | rfl
  ·exact g1.2.1
  exact g2.2.1
 split
 ·rename_i h1 h2 h3 h4;obtain ⟨_, _, g1, g2, g3, h3, h6⟩ := h4;refine ⟨by simp, by simp; have := g3.1; omega, by simp; omega, fun h => by omega, fun k h4 h5 => ?_, h6⟩
  have : k = 1 ∨ k = 2 ∨ k = 3 := by simp at h5; omega
  rcases this with rfl | rfl | rfl
  ·exact g1.2.1
  ·exact g2.2.1
  exact g3.2.1
 rename_i h1 h2 h3 h4;exact ⟨by simp, by simp; omega, by simp; omega, fun h => by omega, fun k h4 h5 => by simp at h5; omega, by unfold Qil; simp⟩
def Qy9 (s : List UInt8) (i : Nat) : Prop := Qem s i = (65533, 1)
instance (s : List UInt8) (i : Nat) : Decidable (Qy9 s i) := inferInstanceAs (Decidable (_ = _))
def Qxu (s : List UInt8) (pos : Nat) : Option Nat :=
 if h : pos < s.length then (if (Qem s pos).1 = 0 ∨ Qy9 s pos then some pos else Qxu s (pos + (Qem s pos).2)) else none
termination_by s.length - pos
decreasing_by have := (Qss s pos h).1; omega
end
end Go.Av
namespace Go.Av
noncomputable section
open Go.Proofs
theorem Qzl {b : UInt8} {n : Nat} (h : b.toNat = n) (hn : n < 256) : b = UInt8.ofNat n := by
 apply UInt8.toNat_inj.1; rw [h]; simp [UInt8.toNat_ofNat]; omega
theorem Qse {s : List UInt8} {i : Nat} (hi : i < s.length) (hc : (Qem s i).1 = 65533) : (3 ≤ (s.drop i).length ∧ (s.drop i).take 3 = [239, 191, 189]) ↔ ¬ Qy9 s i := by
 constructor
 ·rintro ⟨h1, h2⟩ hn
  have hl : i + 2 < s.length := by simp at h1; omega
  have g : ∀ k, k < 3 → s[i + k]? = ([239, 191, 189] : List UInt8)[k]? := by
   intro k hk;rw [← h2, Md, if_pos hk, Mg]
  have a0 : at8 s i = 239 := by have := g 0 (by omega); simp at this; simp [at8, List.getD_eq_getElem?_getD, this]
  have a1 : at8 s (i + 1) = 191 := by have := g 1 (by omega); simp at this; simp [at8, List.getD_eq_getElem?_getD, this]
  have a2 : at8 s (i + 2) = 189 := by have := g 2 (by omega); simp at this; simp [at8, List.getD_eq_getElem?_getD, this]
  have g1 : goes s (i + 1) := ⟨by omega, by omega, by omega⟩;have g2 : goes s (i + 2) := ⟨by omega, by omega, by omega⟩;unfold Qy9 Qem at hn;rw [a0, a1, a2] at hn;simp [g1, g2, Qil] at hn
 intro hn;have h0 := Qp6 s i;unfold Qy9 at hn;unfold Qem at hn hc;split at hn
 ·rename_i h1; rw [if_pos h1] at hc; simp at hc; omega
 rename_i h1; rw [if_neg h1] at hc;split at hn
 ·rename_i h2;rw [if_pos h2] at hc;obtain ⟨_, _, g1, _⟩ := h2;have := g1.2; simp at hc; omega
 rename_i h2; rw [if_neg h2] at hc;split at hn
 ·rename_i h3;rw [if_pos h3] at hc;obtain ⟨_, _, g1, g2, _⟩ := h3;have b1 := g1.2;have b2 := g2.2;have l2 := g2.1
  simp only at hc
  have a0 : at8 s i = 239 := by omega
  have a1 : at8 s (i + 1) = 191 := by omega
  have a2 : at8 s (i + 2) = 189 := by omega
  rw [Qf7 (by omega)] at a0 a1 a2;refine ⟨by simp; omega, ?_⟩;apply Mx;intro k;rw [Md]
  by_cases hk : k < 3
  ·rw [if_pos hk, Mg]
   have : k = 0 ∨ k = 1 ∨ k = 2 := by omega
   rcases this with rfl | rfl | rfl
   ·rw [Nt, Ld (by omega), Qzl a0 (by omega)]; rfl
   ·rw [Ld (by omega), Qzl a1 (by omega)]; rfl
   rw [Ld (by omega), Qzl a2 (by omega)]; rfl
  rw [if_neg hk]; simp; omega
 rename_i h3; rw [if_neg h3] at hc;split at hn
 ·rename_i h4;rw [if_pos h4] at hc;obtain ⟨_, _, g1, g2, g3, h5, h6⟩ := h4
  simp only at hc
  omega
 exact absurd rfl hn
theorem Qw3 (N : Nat) (s : List UInt8) : Q0p N s = some (decide (3 ≤ s.length ∧ s.take 3 = [239, 191, 189])) := by
 unfold Q0p;rw [Q59]
 by_cases h : 3 ≤ s.length
 ·have h1 : decide ((s.length : Int) ≥ 3) = true := by simp; omega
  have h2 : (Nat.ble 0 3 && Nat.ble 3 s.length) = true := by simp [h]
  rw [h1, h2];simp only [cond_true, Nl, Q4o]
  congr 1
  by_cases h3 : s.take 3 = [239, 191, 189] <;> simp [h, h3]
 have h1 : decide ((s.length : Int) ≥ 3) = false := by simp; omega
 rw [h1];simp [h]
def Z3u (o : Option Nat) : Int := match o with
 | some p => p
 | none => -1
theorem Qzw (s : List UInt8) : Tot (fun N => Q4q N s) (Z3u (Qxu s 0)) := by
 refine TotP.tot ?_;show TotP (fun N => Ws N s N 0) _;refine Q8b (L := fun N n (p : Nat) => Ws N s n p) (fun p => Qxu s p = Qxu s 0) (fun p => s.length - p) (fun p hp => ?_) 0 rfl;show Stp _ _ _ (fun N n => cond (Nat.blt p s.length) _ _);refine Stp.cond (fun h => ?_) (fun h => ?_)
 ·have hl : p < s.length := by simpa [Nat.blt_eq] using h
  rw [Qp9];have hw := Qss s p hl
  have hb : Qxu s p = (if (Qem s p).1 = 0 ∨ Qy9 s p then some p else Qxu s (p + (Qem s p).2)) := by rw [Qxu, dif_pos hl]
  rw [Q1b, Q1b];refine Stp.cond (fun h0 => ?_) (fun h0 => ?_)
  ·have h0 : (Qem s p).1 = 0 := by simpa using h0
   refine Stp.ret ?_;rw [← hp, hb, if_pos (.inl h0)]; rfl
  have h0 : (Qem s p).1 ≠ 0 := by simpa using h0
  refine Stp.cond (fun h1 => ?_) (fun h1 => ?_)
  ·have h1 : (Qem s p).1 = 65533 := by have := of_decide_eq_true h1; omega
   refine Stp.chk (by simp; omega) ?_;rw [Ba];refine Stp.bind (V := (· = decide (3 ≤ (s.drop p).length ∧ (s.drop p).take 3 = [239, 191, 189]))) ⟨_, rfl, .of fun N => Qw3 N _⟩ ?_
   rintro v rfl
   have hwi := Qse hl h1;refine Stp.cond (fun h2 => ?_) (fun h2 => ?_)
   ·have h2 : ¬ (3 ≤ (s.drop p).length ∧ (s.drop p).take 3 = [239, 191, 189]) := by
     have : (!decide (3 ≤ (s.drop p).length ∧ (s.drop p).take 3 = [239, 191, 189])) = true := h2;simpa only [Nw, decide_eq_false_iff_not] using this
    have h3 : Qy9 s p := Lx fun h => h2 (hwi.2 h);refine Stp.ret ?_;rw [← hp, hb, if_pos (.inr h3)]; rfl
   have h2 : (3 ≤ (s.drop p).length ∧ (s.drop p).take 3 = [239, 191, 189]) := by
    have : (!decide (3 ≤ (s.drop p).length ∧ (s.drop p).take 3 = [239, 191, 189])) = false := h2;simpa only [Bool.not_eq_false', decide_eq_true_eq] using this
   refine Stp.go (p + (Qem s p).2) ⟨?_, by have := hw.1; have := hw.2.1; omega⟩;rw [← hp, hb, if_neg]
   rintro (h | h)
   ·exact h0 h
   exact hwi.1 h2 h
  have h1 : (Qem s p).1 ≠ 65533 := by intro e; rw [e] at h1; simp at h1
  refine Stp.go (p + (Qem s p).2) ⟨?_, by have := hw.1; have := hw.2.1; omega⟩;rw [← hp, hb, if_neg]
  rintro (h | h)
  ·exact h0 h
  unfold Qy9 at h; rw [h] at h1; exact h1 rfl
 have hl : ¬ p < s.length := fun hlt => by
  have h' : Nat.blt p s.length = true := by rw [Bx]; exact hlt
  rw [h'] at h; cases h
 refine Stp.ret ?_;rw [← hp, Qxu, dif_neg hl]; rfl
def Qk3 (s : List UInt8) : Bool := decide (s.length ≤ 65535) && (Qxu s 0).isNone
theorem Qvf (o : Option Nat) : decide (Z3u o = -1) = o.isNone := by
 cases o with
 | none => rfl
 | some p => simp [Z3u]
theorem Q6o (s : List UInt8) : Tot (fun N => Qz N s) (Qk3 s) := by
 refine TotP.tot ?_;show TotP (fun N => cond (Q3 .leq (s.length : Int) 65535) _ _) _;rw [Q1z];refine TotP.cond (fun h => ?_) (fun h => ?_)
 ·have h : s.length ≤ 65535 := by have := of_decide_eq_true h; omega
  refine TotP.bindE (Qzw s) (.ret ?_);rw [Q1b, Qvf]; simp [Qk3, h]
 have h : ¬ s.length ≤ 65535 := by have := of_decide_eq_false h; omega
 exact .ret (by simp [Qk3, h])
end
end Go.Av
namespace Go.Av
noncomputable section
open Go.Proofs
theorem Qof (s : List UInt8) : Tot (fun N => Q44 N s) (decide (s ≠ []) && Qk3 s) := by
 refine TotP.tot ?_;show TotP (fun N => cond (Q4o .neq s []) _ _) _
 have e : Q4o .neq s [] = decide (s ≠ []) := by cases s <;> rfl
 rw [e];refine TotP.cond (fun h => ?_) (fun h => ?_)
 ·exact .bindE (Q6o s) (.ret (by rw [h]; rfl))
 exact .ret (by rw [h]; rfl)
theorem Qs2 (c : UInt8) : ∀ (l : List UInt8) (i : Nat), (0 ≤ Qhi l c i) ↔ c ∈ l
 | [], i => by simp [Qhi]
 | b :: l, i => by
  unfold Qhi
  by_cases h : b == c
  ·rw [if_pos h]; have := eq_of_beq h; subst this; simp
  rw [if_neg h, Qs2 c l (i + 1)];have : ¬ c = b := fun e => h (by simp [e]);simp [this]
theorem Qxw {c : Nat} (h : Qil c) (h1 : 128 ≤ c) : ∃ l : List UInt8, (Utf8.encode (c : Int)).data.toList = l ∧ 2 ≤ l.length ∧ l.length ≤ 4 ∧ ∀ b ∈ l, 128 ≤ b.toNat := by
 have hv := (Qka c).2 h;unfold Utf8.encode;simp only [hv, if_true, Lt];have h2 := h.2
 have m : ∀ n, n < 256 → 128 ≤ n → 128 ≤ (UInt8.ofNat n).toNat := fun n a b => by rw [UInt8.toNat_ofNat']; omega
 rw [if_neg (by omega)];split
 ·refine ⟨_, rfl, by simp, by simp, fun b hb => ?_⟩;simp only [Mk, Bn, or_false] at hb
  rcases hb with rfl | rfl <;> exact m _ (by omega) (by omega)
 split
 ·refine ⟨_, rfl, by simp, by simp, fun b hb => ?_⟩;simp only [Mk, Bn, or_false] at hb
  rcases hb with rfl | rfl | rfl <;> exact m _ (by omega) (by omega)
 refine ⟨_, rfl, by simp, by simp, fun b hb => ?_⟩;simp only [Mk, Bn, or_false] at hb
 rcases hb with rfl | rfl | rfl | rfl <;> exact m _ (by omega) (by omega)
theorem Qxq (M : Nat) : Zt (M + 3) [43, 35] (M + 3) 0 = some (-1) := by
 have e1 : Qck [43, 35] 0 = (43, 1) := by decide
 have e2 : Qck [43, 35] (0 + 1) = (35, 1) := by decide
 have b0 : Nat.blt 0 ([43, 35] : List UInt8).length = true := rfl;have b1 : Nat.blt (0 + 1) ([43, 35] : List UInt8).length = true := rfl;have b2 : Nat.blt (0 + 1 + 1) ([43, 35] : List UInt8).length = false := rfl
 have c1 : Q3 .eql ((43 : Nat) : Int) 65533 = false := by decide
 have c2 : Q3 .eql ((35 : Nat) : Int) 65533 = false := by decide
 rw [Zt, e1, b0, cond_true, c1, cond_false, Zt, e2, b1, cond_true, c2, cond_false, Zt, b2, cond_false]
theorem Qzy {c : Nat} (hc : Qil c) (N : Nat) : Y9 N (c : Int) = some true := by
 unfold Y9;simp only [Q1z, Qm];obtain ⟨k1, k2⟩ := hc;rw [decide_eq_true (show (0 : Int) ≤ (c : Int) by omega)]
 by_cases h5 : (c : Int) < 55296
 ·rw [decide_eq_true h5]; rfl
 have h6 : (57343 : Int) < (c : Int) := by omega
 have h7 : (c : Int) ≤ 1114111 := by omega
 rw [decide_eq_false h5, decide_eq_true h6, decide_eq_true h7]; rfl
theorem Qvl {c : Nat} (hc : Qil c) (h : 128 ≤ c) (M : Nat) : Xv (M + 1) [43, 35] (c : Int) (M + 1) = some (-1) := by
 obtain ⟨l, hl, l1, l2, l3⟩ := Qxw hc h;rw [Xv];simp only [hl, Qm, Q1x]
 have ew : IntKind.wrap .i64 ((l.length : Int) - 1) = ((l.length - 1 : Nat) : Int) := by rw [w64 _ (by omega)]; omega
 rw [ew]
 by_cases h2 : l.length = 2
 ·have e1 : ((l.length - 1 : Nat) : Int) = ((1 : Nat) : Int) := by rw [h2]
  rw [e1];have e2 : idx l ((1 : Nat) : Int) = some l[1] := Qw (by omega);have e3 := l3 l[1] (Mf _);generalize l[1] = y at e2 e3
  have e4 : decide (((35 : UInt8).toNat : Int) ≠ (y.toNat : Int)) = true := by
   have : (35 : UInt8).toNat = 35 := rfl;simp only [ne_eq, decide_eq_true_eq]; omega
  have e5 : idx ([43, 35] : List UInt8) ((1 : Nat) : Int) = some 35 := rfl
  have e6 : IntKind.wrap .i64 (((1 : Nat) : Int) + 1) = 2 := by decide
  have e7 : decide (((1 : Nat) : Int) < ((([43, 35] : List UInt8).length : Nat) : Int)) = true := by decide
  have e8 : decide ((0 : Int) ≤ 2) = true := by decide
  rw [e7, cond_true, e5, Lg, e2, Lg, e4, cond_true, e6, e8, cond_true]
  have e9 : (Nat.ble (Int.toNat 2) ([43, 35] : List UInt8).length && Nat.ble ([43, 35] : List UInt8).length ([43, 35] : List UInt8).length) = true := by decide
  rw [e9, cond_true, Lg];rfl
 have e1 : decide (((l.length - 1 : Nat) : Int) < ((([43, 35] : List UInt8).length : Nat) : Int)) = false := by
  simp; omega
 rw [e1]; rfl
theorem Qiv {c : Nat} (hc : Qil c) : TotP (fun N => G8 N [43, 35] (c : Int)) (fun v => decide (v ≥ 0) = decide (c = 43 ∨ c = 35)) := by
 show TotP (fun N => cond (Q3 .leq 0 (c : Int)) _ _) _
 have e0 : Q3 .leq 0 (c : Int) = true := by rw [Q1z]; simp
 rw [e0];refine TotP.cond (fun _ => ?_) (fun h => by cases h);unfold V2;rw [Qm, Q1b];refine TotP.cond (fun h => ?_) (fun h => ?_)
 ·have h : c < 128 := by have := of_decide_eq_true h; omega
  have ew : IntKind.wrap .u8 (c : Int) = c := by
   rw [IntWalk.u8_in]; omega
  refine TotP.bindE (v := Qhi [43, 35] (UInt8.ofNat c) 0) (.of fun N => ?_) (.ret ?_)
  ·show ((Qr N [43, 35] _).bind fun v => some v) = _;rw [ew]; rfl
  have := Qs2 (UInt8.ofNat c) [43, 35] 0;rw [decide_eq_decide];show (0 ≤ _) ↔ _;rw [this]
  have e1 : ∀ n, n < 256 → (UInt8.ofNat c = UInt8.ofNat n ↔ c = n) := fun n hn => by
   rw [← UInt8.toNat_inj, UInt8.toNat_ofNat', UInt8.toNat_ofNat']; omega
  have a := e1 43 (by omega);have b := e1 35 (by omega);simp only [Mk, Bn, or_false];exact or_congr a b
 have h : 128 ≤ c := by have := of_decide_eq_false h; omega
 have hn : decide (c = 43 ∨ c = 35) = false := by simp; omega
 refine TotP.cond (fun h1 => ?_) (fun h1 => ?_)
 ·-- bytes that are none
  refine ⟨-1, by rw [hn]; rfl, 3, fun N hN => ?_⟩;obtain ⟨M, rfl⟩ : ∃ M, N = M + 3 := ⟨N - 3, by omega⟩;exact Qxq M
 refine TotP.bindE (.of (Qzy hc)) ?_;refine TotP.cond (fun h => by cases h) (fun _ => ?_);refine ⟨-1, by rw [hn]; rfl, 1, fun N hN => ?_⟩;obtain ⟨M, rfl⟩ : ∃ M, N = M + 1 := ⟨N - 1, by omega⟩;exact Qvl hc h M
end
end Go.Av
namespace Go.Av
noncomputable section
open Go.Proofs
def Z0g (s : List UInt8) : Bool := s.any fun b => b.toNat == 43 || b.toNat == 35
theorem Qz0 {s : List UInt8} {j : Nat} (hj : j < s.length) (h : at8 s j = 43 ∨ at8 s j = 35) : Z0g s = true := by
 unfold Z0g;rw [List.any_eq_true];refine ⟨s[j], Mf _, ?_⟩;rw [Qf7 hj] at h
 rcases h with h | h <;> simp [h]
theorem Qyh {s : List UInt8} (h : ∀ j, j < s.length → at8 s j ≠ 43 ∧ at8 s j ≠ 35) : Z0g s = false := by
 unfold Z0g;rw [List.any_eq_false];intro b hb;obtain ⟨j, hj, rfl⟩ := Bq hb;have := h j hj;rw [Qf7 hj] at this;simp [this.1, this.2]
def asciiS : List Bool := (List.range 256).map fun n => n == 43 || n == 35
theorem Qs3 (n : Nat) (h : n < 256) : idx asciiS (n : Int) = some (n == 43 || n == 35) := by
 have hl : n < asciiS.length := by simp [asciiS]; exact h
 rw [Qw hl]; simp [asciiS]
set_option maxRecDepth 20000 in
theorem Qm8 (s : List UInt8) (hs : s.length ≤ maxLen) : TotP (fun N => J7 N s) (fun v => decide (v ≥ 0) = Z0g s) := by
 have hm := Qat;show TotP (fun N => cond (Q4o .eql [43, 35] []) _ _) _;refine TotP.cond (fun h => by cases h) (fun _ => ?_);refine TotP.bindE (v := decide ((s.length : Int) > 8)) (.of fun N => rfl) ?_;refine TotP.cond (fun _ => ?_) (fun _ => ?_)
 ·refine Q3y (L := fun N n i => Yy N s n i) s.length (fun i => ∀ j, j < i → at8 s j ≠ 43 ∧ at8 s j ≠ 35) (fun i hi hj => ?_) (fun hj => ?_) (fun j hj => by omega)
  ·show Stp _ _ _ (fun N n => cond (Q3 .lss (i : Int) (s.length : Int)) _ _);refine Stp.cond (fun _ => ?_) (fun h => by rw [Qm] at h; have := of_decide_eq_false h; omega);refine Stp.idx (Qw hi) ?_;have hb := UInt8.toNat_lt s[i];refine Stp.chk (by simp; omega) ?_;refine Stp.idx (Qs3 _ (by omega)) ?_;refine Stp.cond (fun h => ?_) (fun h => ?_)
   ·refine Stp.ret ?_;rw [Qz0 hi (by rw [Qf7 hi]; simpa using h)];simp
   rw [w64 _ (by omega)];refine Stp.go _ ⟨by omega, fun j hj' => ?_⟩
   by_cases e : j = i
   ·subst e; rw [Qf7 hi]; simpa using h
   exact hj j (by omega)
  show Stp _ _ _ (fun N n => cond (Q3 .lss (s.length : Int) (s.length : Int)) _ _);refine Stp.cond (fun h => by rw [Qm] at h; have := of_decide_eq_true h; omega) (fun _ => ?_);refine Stp.ret ?_;rw [Qyh hj]; rfl
 refine Q8b (L := fun N n (p : Nat) => Yz N s n p) (fun p => ∀ j, j < p → at8 s j ≠ 43 ∧ at8 s j ≠ 35) (fun p => s.length - p) (fun p hp => ?_) 0 (fun j hj => by omega);show Stp _ _ _ (fun N n => cond (Nat.blt p s.length) _ _);refine Stp.cond (fun h => ?_) (fun h => ?_)
 ·have hl : p < s.length := by simpa [Nat.blt_eq] using h
  rw [Qp9];obtain ⟨w1, w2, w3, w4, w5, w6⟩ := Qss s p hl;refine Stp.bind (Qiv w6) ?_;intro v hv;rw [Q59, hv];refine Stp.cond (fun h => ?_) (fun h => ?_)
  ·have h := of_decide_eq_true h;have h128 : at8 s p < 128 := w3.1 (by omega);refine Stp.ret ?_;rw [Qz0 hl (by rw [← (w4 h128).1]; exact h)];simp
  have h := of_decide_eq_false h;refine Stp.go _ ⟨fun j hj => ?_, by omega⟩
  by_cases e : j < p
  ·exact hp j e
  by_cases e2 : j = p
  ·subst e2
   by_cases h128 : at8 s j < 128
   ·rw [(w4 h128).1] at h; omega
   omega
  have := w5 (j - p) (by omega) (by omega);rw [show p + (j - p) = j by omega] at this;omega
 refine Stp.ret ?_;rw [Qyh (fun j hj => hp j ?_)]
 ·rfl
 have : ¬ p < s.length := fun hlt => by
  have h' : Nat.blt p s.length = true := by rw [Bx]; exact hlt
  rw [h'] at h; cases h
 omega
theorem Qe1 (s : List UInt8) (hs : s.length ≤ maxLen) : Tot (fun N => Zu N s) (Z0g s) := by
 refine TotP.tot ?_;refine TotP.bind (Qm8 s hs) (fun v hv => .ret ?_);rw [Q59]; exact hv
def Qgz (s : List UInt8) : Bool := decide (s ≠ []) && Qk3 s && !Z0g s
theorem Q7j (s : List UInt8) (hs : s.length ≤ maxLen) : Tot (fun N => Z5 N s) (Qgz s) := by
 refine TotP.tot ?_;refine TotP.bindE (Qof s) ?_;refine TotP.cond (fun h => ?_) (fun h => ?_)
 ·refine TotP.bindE (Qe1 s hs) (.ret ?_);unfold Qgz; rw [h]; rfl
 exact .ret (by unfold Qgz; rw [h]; rfl)
end
end Go.Av
namespace Go.Av
noncomputable section
def Any {R : Type} (f : Nat → Option R) : Prop := TotP f fun _ => True
theorem Q92 (N : Nat) (x a b : Int) : Ub N x a b = some (decide (a ≤ x) && decide (x ≤ b)) := by
 unfold Ub;rw [Q59, Q1z]
 by_cases h : a ≤ x
 ·rw [decide_eq_true (p := x ≥ a) h]; rfl
 rw [decide_eq_false (p := x ≥ a) h]; rfl
theorem Z16 (s : List UInt8) (hs : s.length = 2) : Any (fun N => U1 N s) := by
 match s, hs with
 | [a, b], _ => exact ⟨_, trivial, 3, fun N hN => by
   obtain ⟨M, rfl⟩ : ∃ M, N = M + 3 := ⟨N - 3, by omega⟩
   rfl⟩
theorem Qkx (s : List UInt8) (hs : s.length ≤ maxLen) : Any (fun N => Q35 N s) := by
 show TotP (fun N => cond (Q3 .neq (s.length : Int) 2) _ _) _;rw [Q1x];refine TotP.cond (fun _ => .ret trivial) (fun h => ?_)
 have h : s.length = 2 := by have := of_decide_eq_false h; omega
 refine TotP.bindE (Q7j s hs) ?_;refine TotP.cond (fun _ => .ret trivial) (fun _ => ?_);exact TotP.bind (Z16 s h) (fun _ _ => .ret trivial)
theorem Jd (n size : Int) : TotP (fun N => Qk N n size) (fun l => l.length ≤ 16) := by
 show TotP (fun N => cond (Q3 .leq size 0) _ _) _;rw [Q1z];refine TotP.cond (fun _ => .ret (by simp)) (fun h => ?_)
 have h : 0 < size := by have := of_decide_eq_false h; omega
 obtain ⟨m, hm, hm16⟩ : ∃ m : Nat, ifB (decide (16 < size)) (16 : Int) size = (m : Int) ∧ m ≤ 16 := by
  by_cases g : 16 < size
  ·exact ⟨16, by rw [decide_eq_true g]; rfl, by omega⟩
  exact ⟨size.toNat, by rw [decide_eq_false g]; show size = _; omega, by omega⟩
 rw [hm];refine TotP.chk (by simp only [La, decide_eq_true_eq]; omega) ?_;have := Q8b (L := fun N n' (p : Int × List Int) => Xc N n size n' p.1 p.2) (Q := fun l : List UInt8 => l.length ≤ 16) (fun p => ∃ i : Nat, p.1 = (i : Int) ∧ i ≤ m ∧ p.2.length = m) (fun p => m - p.1.toNat)
  ?_ (0, List.replicate ((m : Int).toNat) 0) ⟨0, rfl, by omega, by simp⟩
 ·exact this
 rintro ⟨s, l⟩ ⟨i, hs, hi, hl⟩
 simp only at hs hl
 subst hs;show Stp _ _ _ (fun N n' => cond (Q3 .lss (i : Int) (ifB (decide (16 < size)) 16 size)) _ _);rw [hm, Qm, Qm];refine Stp.cond (fun h => ?_) (fun h => ?_)
 ·have h := of_decide_eq_true h
  have e1 : IntKind.wrap .i64 ((i : Int) + 1) = ((i + 1 : Nat) : Int) := by rw [w64 _ (by omega)]; omega
  refine Stp.cond (fun h8 => ?_) (fun h8 => ?_)
  ·have h8 := of_decide_eq_true h8;refine Stp.chk ?_ ?_
   ·rw [w64 (8 * (i : Int)) (by omega)]
    have : i = 0 ∨ i = 1 ∨ i = 2 ∨ i = 3 ∨ i = 4 ∨ i = 5 ∨ i = 6 ∨ i = 7 := by omega
    rcases this with rfl | rfl | rfl | rfl | rfl | rfl | rfl | rfl <;> rfl
   have e2 : IntKind.wrap .i64 (IntKind.wrap .i64 ((m : Int) - 1) - (i : Int)) = ((m - 1 - i : Nat) : Int) := by rw [w64 ((m : Int) - 1) (by omega), w64 _ (by omega)]; omega
   rw [e1, e2];refine Stp.idx (Qw (show m - 1 - i < l.length by omega)) ?_;refine Stp.go (L := fun N n' (p : Int × List Int) => Xc N n size n' p.1 p.2) (_, _) ⟨⟨i + 1, rfl, by omega, by simp [hl]⟩, ?_⟩;simp only [Lt]; omega
  rw [e1];refine Stp.go (L := fun N n' (p : Int × List Int) => Xc N n size n' p.1 p.2) (_, _) ⟨⟨i + 1, rfl, by omega, hl⟩, ?_⟩;simp only [Lt]; omega
 exact Stp.ret (by simp [hl]; exact hm16)
theorem Qhe (x : Int) : TotP (fun N => Jf N x) (fun r => r.1.length ≤ 268435456) := by
 show TotP (fun N => (Q47 N x).bind _) _
 have hm : ∀ N, Q47 N x = some (decide (0 ≤ x) && decide (x ≤ 268435455)) := fun N => by
  show cond (Q3 .geq x 0) (some (Q3 .leq x 268435455)) (some false) = _;rw [Q59, Q1z]
  by_cases h : 0 ≤ x
  ·rw [decide_eq_true (p := x ≥ 0) h]; rfl
  rw [decide_eq_false (p := x ≥ 0) h]; rfl
 refine TotP.bindE (.of hm) ?_;refine TotP.cond (fun _ => .ret (by simp)) (fun h => ?_)
 have h : 0 ≤ x ∧ x ≤ 268435455 := by simpa using h
 have := Q8b (L := fun N n' (p : Int × List Int) => V8 N n' p.1 p.2) (Q := fun r : List UInt8 × Int => r.1.length ≤ 268435456) (fun p => 0 ≤ p.1 ∧ (p.2.length : Int) ≤ 268435455 - p.1) (fun p => p.1.toNat)
  ?_ (x, []) ⟨h.1, by simp; omega⟩
 ·exact this
 rintro ⟨s, l⟩ ⟨h1, h2⟩
 simp only at h1 h2
 show Stp _ _ _ (fun N n' => cond (Q3 .geq s 128) _ _);rw [Q59];refine Stp.cond (fun h => ?_) (fun h => ?_)
 ·have h := of_decide_eq_true h;refine Stp.chk (by rw [Lk]; dsimp only; omega) ?_;have e : s.tdiv 128 = s / 128 := Int.tdiv_eq_ediv_of_nonneg h1;rw [e, w64 _ (by omega)];refine Stp.go (L := fun N n' (p : Int × List Int) => V8 N n' p.1 p.2) (_, _) ⟨⟨by simp only; omega, by simp only [Li, Lp, Lo]; omega⟩, by simp only; omega⟩
 refine Stp.chk (by rw [Lk]; dsimp only; omega) ?_;exact Stp.ret (by simp; omega)
theorem Qdj (s : List UInt8) : TotP (fun N => Uy N s) (fun r => r.1.length ≤ 65551) := by
 show TotP (fun N => cond (Q3 .gtr (s.length : Int) 65535) _ _) _;rw [Q3h];refine TotP.cond (fun _ => .ret (by simp)) (fun h => ?_);have h := of_decide_eq_false h;refine TotP.bind (f := fun N => J0 N s) (V := fun l => l.length ≤ 65551) ?_ (fun v hv => .ret hv);refine TotP.bind (Jd _ _) (fun v hv => ?_);refine TotP.chk (by rw [Lk]; omega) (.ret ?_)
 simp; omega
theorem Qtz (h : Q0t) (hh : h.Node.length ≤ 300) : TotP (fun N => Jj N h) (fun l => l.length ≤ 400) := by
 refine TotP.bind (Jd _ _) (fun a ha => ?_);refine TotP.bind (Jd _ _) (fun b hb => ?_);refine TotP.chk (by rw [Lk]; omega) ?_;refine TotP.bind (Jd _ _) (fun c hc => ?_);refine TotP.chk (by rw [Lk]; simp; omega) ?_;refine TotP.chk (by rw [Lk]; simp; omega) (.ret ?_)
 simp; omega
theorem Qs7 (h : Q0t) : Any (fun N => Q1u N h) := by
 refine TotP.bind (V := fun _ => True) ?_ (fun _ _ => .ret trivial);show TotP (fun N => cond (Q3 .geq h.Radius 0) _ _) _;refine TotP.cond (fun _ => TotP.cond (fun _ => TotP.cond (fun _ => .ret trivial) (fun _ => .ret trivial)) (fun _ => .ret trivial)) (fun _ => .ret trivial)
section
variable (e : Qv) (lm : Y5) (h1 : e.Hops.length ≤ 8) (h2 : ∀ h ∈ e.Hops, h.Node.length ≤ 300)
include h1 h2
end
end
end Go.Av
namespace Go.Av
noncomputable section
section
variable {R S T : Type} {L : Nat → Nat → S → Option R} {P : S → Prop} {Q : R → Prop}
theorem Stp.optN {f : Nat → Nat → T → Option R} {z : Nat → Nat → Option R} (h : Stp L P Q z) : Stp L P Q (fun N n => optC none (f N n) (z N n)) := h
theorem Stp.optS {v : T} {f : Nat → Nat → T → Option R} {z : Nat → Nat → Option R} (h : Stp L P Q (fun N n => f N n v)) : Stp L P Q (fun N n => optC (some v) (f N n) (z N n)) := h
end
theorem Ql5 {T : Type} {x : Int} {v : T} : ∀ {tab : List (Int × T)}, Q8q tab x = some v → (x, v) ∈ tab
 | (k, w) :: r, h => by
  unfold Q8q at h
  cases hb : x == k with
  | true => rw [hb] at h; have e := eq_of_beq hb; subst e; cases h; exact List.mem_cons_self
  | false => rw [hb] at h; exact List.mem_cons_of_mem _ (Ql5 h)
 | [], h => nomatch h
theorem Qxm {x : Int} {v : Qj} (h : Q8q F_prop_rules_tab x = some v) : 1 ≤ x ∧ x ≤ 42 := by
 have hall : (F_prop_rules_tab.all fun q => decide (1 ≤ q.1) && decide (q.1 ≤ 42)) = true := by decide +kernel
 have := Lw.1 hall _ (Ql5 h);simpa using this
theorem Qv1 (s : Int) (p : Ql) : TotP (fun N => Jx N s p) (fun l => l.length ≤ 268500000) := by
 refine TotP.cond (fun _ => TotP.bind (Jd _ _) (fun v hv => .ret (by omega))) (fun _ => ?_);refine TotP.cond (fun _ => TotP.bind (Jd _ _) (fun v hv => .ret (by omega))) (fun _ => ?_);refine TotP.cond (fun _ => TotP.bind (Jd _ _) (fun v hv => .ret (by omega))) (fun _ => ?_);refine TotP.cond (fun _ => TotP.bind (Qhe _) (fun v hv => .ret (by omega))) (fun _ => ?_);refine TotP.bind (Qdj _) (fun v hv => ?_);refine TotP.cond (fun _ => .ret (by omega)) (fun _ => ?_);refine TotP.bind (Qdj _) (fun w hw => ?_);exact TotP.chk (by rw [Lk]; omega) (.ret (by simp only [Li]; omega))
end
end Go.Av
namespace Go.Av
noncomputable section
theorem Qfz (l : List Ql) (hb : l.length ≤ maxLen) : TotP (fun N => Z3 N l) (fun v => v = true → l.length ≤ 30 ∧ ∀ p ∈ l, p.Text.length ≤ 300 ∧ p.Value.length ≤ 300) := by
 have hm := Qat
 ·refine Q3y (L := fun N n s => Zq N l n s) l.length (fun i => ∀ j (h : j < l.length), j < i → (l[j]).Text.length ≤ 300 ∧ (l[j]).Value.length ≤ 300) (fun i hi hj => ?_) (fun hj => ?_) (fun j _ hj => by omega)
  ·show Stp _ _ _ (fun N n => cond (Q3 .lss (i : Int) ((Q8 Ql.cells l).length : Int)) _ _);rw [Q5, Qm];refine Stp.cond (fun _ => ?_) (fun h => by have := of_decide_eq_false h; omega);refine Stp.idx (Qw hi) ?_;rw [Q3h];refine Stp.cond (fun _ => Stp.ret (fun h => nomatch h)) (fun h1 => ?_);refine Stp.idx (Qw hi) ?_;rw [Q3h];refine Stp.cond (fun _ => Stp.ret (fun h => nomatch h)) (fun h2 => ?_);have h1 := of_decide_eq_false h1; have h2 := of_decide_eq_false h2;rw [w64 _ (by omega)];refine Stp.go (L := fun N n s => Zq N l n s) _ ⟨by omega, fun j hj' hji => ?_⟩
   by_cases e : j = i
   ·subst e; constructor <;> omega
   exact hj j hj' (by omega)
  show Stp _ _ _ (fun N n => cond (Q3 .lss (l.length : Int) ((Q8 Ql.cells l).length : Int)) _ _);rw [Q5, Qm];refine Stp.cond (fun h => by have := of_decide_eq_true h; omega) (fun _ => Stp.ret (fun h => ⟨?_, fun p hp => ?_⟩))
  ·rw [Q1z] at h; have := of_decide_eq_true h; omega
  obtain ⟨j, hj', rfl⟩ := Bq hp;exact hj j hj' hj'
theorem Z4r (x : Int) : IntKind.wrap .i64 x ≤ 9223372036854775807 := by rw [IntKind.wrap_i64]; omega
theorem Qt2 : ∀ (k : Nat) (v : Q1) (deep most : Int), deep < (k : Int) → -1 ≤ deep → deep ≤ 1000 → most ≤ 9223372036854775807 → Any (fun N => Zh N v deep most) := by
 intro k
 induction k with
 | zero =>
  intro v deep most h _ _ _;refine ⟨IntKind.wrap .i64 (most + 1), trivial, 1, fun N hN => ?_⟩;obtain ⟨M, rfl⟩ : ∃ M, N = M + 1 := ⟨N - 1, by omega⟩;show cond (Q3 .lss deep 0) _ _ = _;rw [Qm, decide_eq_true (by omega)]; rfl
 | succ k ih =>
  intro v deep most h hd hdm hm
  have body : Any (fun N => Ut (Zh N) N v deep most) := by
   refine TotP.cond (fun _ => .ret trivial) (fun h1 => ?_);refine TotP.cond (fun _ => .ret trivial) (fun h2 => ?_);refine TotP.cond (fun _ => .ret trivial) (fun _ => ?_);rw [Qm] at h1; rw [Q1.rows_eq, Q5, Q3h] at h2;have h1 := of_decide_eq_false h1; have h2 := of_decide_eq_false h2;have := Q8b (L := fun N n (p : Int × Int) => Zs (Zh N) N v deep most n p.1 p.2) (Q := fun _ => True) (fun p => ∃ i : Nat, p.2 = (i : Int) ∧ i ≤ v.Items.length) (fun p => v.Items.length - p.2.toNat) ?_ (1, 0) ⟨0, rfl, by omega⟩
   ·exact this
   rintro ⟨q, s⟩ ⟨i, hs, hi⟩
   simp only at hs
   subst hs;show Stp _ _ _ (fun N n => cond (Q3 .lss (i : Int) ((Q1.rows v.Items).length : Int)) _ _);rw [Q1.rows_eq, Q5, Qm];refine Stp.cond (fun h => ?_) (fun _ => Stp.ret trivial);have h := of_decide_eq_true h
   have hi : i < v.Items.length := by omega
   refine Stp.cond (fun _ => ?_) (fun _ => Stp.ret trivial);refine Stp.idx (Qw hi) ?_;rw [w64 (deep - 1) (by omega)];refine Stp.bind (f := fun N => Zh N (v.Items[i]) (deep - 1) (IntKind.wrap .i64 (most - q))) (V := fun _ => True) (ih v.Items[i] (deep - 1) (IntKind.wrap .i64 (most - q)) (by omega) (by omega) (by omega) (Z4r (most - q))) (fun w _ => ?_);rw [w64 ((i : Int) + 1) (by omega)];refine Stp.go (L := fun N n (p : Int × Int) => Zs (Zh N) N v deep most n p.1 p.2) (_, _) ⟨⟨i + 1, by simp only; omega, by omega⟩, by simp only; omega⟩
  obtain ⟨r, _, N0, hN⟩ := body;refine ⟨r, trivial, N0 + 1, fun N h => ?_⟩;obtain ⟨M, rfl⟩ : ∃ M, N = M + 1 := ⟨N - 1, by omega⟩;exact hN M (by omega)
theorem Qts (f : Yj) : Any (fun N => Zv N f) := by
 refine TotP.cond (fun _ => .ret trivial) (fun h0 => ?_);rw [Q1.rows_eq, Q5, Q3h] at h0;have h0 := of_decide_eq_false h0;refine TotP.cond (fun _ => .ret trivial) (fun _ => ?_);refine Q3y (L := fun N n s => Z1 N f n s) f.Values.length (fun _ => True) (fun i hi _ => ?_) (fun _ => ?_) trivial
 ·show Stp _ _ _ (fun N n => cond (Q3 .lss (i : Int) ((Q1.rows f.Values).length : Int)) _ _);rw [Q1.rows_eq, Q5];refine Stp.cond (fun _ => ?_) (fun _ => Stp.ret trivial);refine Stp.idx (Qw hi) ?_;refine Stp.bind (V := fun _ => True) (TotP.bind (Qt2 7 _ 6 40 (by decide) (by decide) (by decide) (by decide)) (fun _ _ => .ret trivial)) (fun _ _ => ?_);refine Stp.cond (fun _ => Stp.ret trivial) (fun _ => ?_);rw [w64 _ (by omega)];exact Stp.go (L := fun N n s => Z1 N f n s) _ ⟨by omega, trivial⟩
 show Stp _ _ _ (fun N n => cond (Q3 .lss (f.Values.length : Int) ((Q1.rows f.Values).length : Int)) _ _);rw [Q1.rows_eq, Q5];refine Stp.cond (fun h => by rw [Qm] at h; have := of_decide_eq_true h; omega) (fun _ => Stp.ret trivial)
structure OkE (e : Qv) : Prop where
 topic : e.Topic.length ≤ maxLen
 props : e.Props.length ≤ maxLen
 filters : e.Packet.Filters.length ≤ maxLen
 pprops : e.Packet.Props.length ≤ maxLen
 wprops : e.Packet.Will.Props.length ≤ maxLen
structure LightE (e : Qv) : Prop where
 topic : e.Topic.length ≤ 2000
 payload : e.Payload.length ≤ 2000
 props : e.Props.length ≤ 30 ∧ ∀ p ∈ e.Props, p.Text.length ≤ 300 ∧ p.Value.length ≤ 300
 hops : e.Hops.length ≤ 8 ∧ ∀ h ∈ e.Hops, h.Node.length ≤ 300
def Lv (o : Option Int) (P : Prop) : Prop := ∃ v, o = some v ∧ (v = 0 → P)
theorem Lv.of {v : Int} {P : Prop} (h : P) : Lv (some v) P := ⟨v, rfl, fun _ => h⟩
theorem Lv.no {v : Int} {P : Prop} (h : v ≠ 0) : Lv (some v) P := ⟨v, rfl, fun e => absurd e h⟩
theorem Lv.cond {b : Bool} {x y : Option Int} {P : Prop} (h1 : Lv x P) (h2 : Lv y P) : Lv (cond b x y) P := by cases b <;> assumption
structure PubE (e : Qv) : Prop where
 proto : e.Proto = 1 ∨ e.Proto = 2 ∨ e.Proto = 3 ∨ e.Proto = 4
 kind : e.Kind = 1
 qos : e.QoS = -1 ∨ e.QoS = 0 ∨ e.QoS = 1 ∨ e.QoS = 2
theorem Qet (N : Nat) (p : Int) : Q2g N p = some (decide (p = 1 ∨ p = 2 ∨ p = 3 ∨ p = 4)) := by
 by_cases h : p = 1 ∨ p = 2 ∨ p = 3 ∨ p = 4
 ·rw [decide_eq_true h]; rcases h with rfl | rfl | rfl | rfl <;> rfl
 have h0 : Q8q Gq p = none := by
  have h1 : (p == 1) = false := by simp; omega
  have h2 : (p == 2) = false := by simp; omega
  have h3 : (p == 3) = false := by simp; omega
  have h4 : (p == 4) = false := by simp; omega
  unfold Gq;simp only [Q8q, h1, h2, h3, h4, cond_false]
 unfold Q2g;rw [h0, decide_eq_false h]; rfl
end
end Go.Av
namespace Go.Av
noncomputable section
open Go.Proofs
set_option maxRecDepth 100000
end
end Go.Av
namespace Go.Av
noncomputable section
open Go.Proofs
set_option maxRecDepth 100000
end
end Go.Av
namespace Go.Av
noncomputable section
open Go.Proofs
set_option maxRecDepth 100000
end
end Go.Av
namespace Go.Av
noncomputable section
open Go.Proofs
set_option maxRecDepth 100000
theorem Z12 (v : Q1) (h : v.txt) : v.wgt ≤ 430 * v.sz := by
 induction v using Q1.ind with
 | h v ih =>
  rw [Q1.txt_eq] at h
  have hl : ∀ l : List Q1, (∀ x ∈ l, x.wgt ≤ 430 * x.sz) → Q1.wgts l ≤ 430 * Q1.szs l := by
   intro l
   induction l with
   | nil => intro _; simp [Q1.wgts]
   | cons x l ihl =>
    intro h;have h1 := h x (.head _);have h2 := ihl (fun y hy => h y (.tail _ hy));simp only [Q1.wgts, Q1.szs]; omega
  have := hl v.Items (fun x hx => ih x hx (Qij _ h.2 x hx));rw [v.wgt_eq, v.sz_eq]; omega
end
end Go.Av
namespace Go.Av
noncomputable section
open Go.Proofs
set_option maxRecDepth 100000
end
end Go.Av
namespace Go.Av
noncomputable section
open Go.Proofs
set_option maxRecDepth 100000
end
end Go.Av
namespace Go.Av
noncomputable section
open Go.Proofs
set_option maxRecDepth 100000
structure FB (f : Yj) : Prop where
 fine : ∀ x ∈ f.Values, Fine x
 sz : Q1.szs f.Values < 160000000
 wgt : Q1.wgts f.Values < 4000000000
theorem FB.one {f : Yj} (h : FB f) : ∀ x ∈ f.Values, Fine x ∧ x.sz < 160000000 ∧ x.wgt < 4000000000 := fun x hx => by
 have h1 := Q1.szs_mem _ x hx;have h2 := Qo1 _ x hx;have h3 := h.sz;have h4 := h.wgt;exact ⟨h.fine x hx, by omega, by omega⟩
theorem FB.len {f : Yj} (h : FB f) : f.Values.length < 160000000 := by
 have h1 := Q1.szs_len f.Values;have h2 := h.sz;omega
end
end Go.Av
namespace Go.Av
noncomputable section
open Go.Proofs
set_option maxRecDepth 100000
theorem Yj.ext' {a b : Yj} (h1 : a.Type' = b.Type') (h2 : a.Channel = b.Channel) (h3 : a.Ext = b.Ext) (h4 : a.Values = b.Values) : a = b := by cases a; cases b; simp_all
noncomputable instance : DecidableEq Yj := fun a b => decidable_of_iff (a.Type' = b.Type' ∧ a.Channel = b.Channel ∧ a.Ext = b.Ext ∧ a.Values = b.Values) ⟨fun h => Yj.ext' h.1 h.2.1 h.2.2.1 h.2.2.2, fun h => by rw [h]; exact ⟨rfl, rfl, rfl, rfl⟩⟩
theorem Qxf (l m : List Q1) (i : Nat) (h : i < l.length) (h' : i < m.length) : decide (l.drop i = m.drop i) = (decide (l[i] = m[i]) && decide (l.drop (i + 1) = m.drop (i + 1))) := by
 rw [Ns h, Ns h', Bool.eq_iff_iff];simp only [decide_eq_true_eq, La, Cc]
theorem Qk6 {N : Nat} (hN : 800000000 ≤ N) {a b : Yj} (ha : Q1.szs a.Values < 700000000) (hl : a.Values.length = b.Values.length) : ∀ (n i : Nat), i ≤ a.Values.length → a.Values.length - i < n → Yu N a b n (i : Int) = some (decide (a.Values.drop i = b.Values.drop i))
 | 0, i, _, h => by omega
 | n + 1, i, hi, hn => by
  have hs := Q1.szs_len a.Values;simp only [Yu, Q3q, Qlq, Q2y, Qa5]
  by_cases h : i < a.Values.length
  ·have h' : i < b.Values.length := by omega
   have hx := Q1.szs_mem _ _ (Mf h);rw [if_pos (by omega), Ld h, Ld h'];simp only [Lg];rw [Qsc N _ _ (by omega) (by omega), Qxf _ _ i h h'];simp only [Lg];rw [Qbu _ (by omega)];have ih := Qk6 hN ha hl n (i + 1) (by omega) (by omega)
   have ih : Yu N a b n ((i : Int) + 1) = some (decide (a.Values.drop (i + 1) = b.Values.drop (i + 1))) := by exact_mod_cast ih
   rw [ih];cases decide (a.Values[i] = b.Values[i]) <;> rfl
  rw [if_neg (by omega), Mt (by omega), Mt (by omega)]; rfl
theorem Qgq {N : Nat} (hN : 800000000 ≤ N) (a b : Yj) (ha : Q1.szs a.Values < 700000000) : Xw N a b = some (decide (a = b)) := by
 have hs := Q1.szs_len a.Values;simp only [Xw, Q3q, Z2m, Qop, Q2y]
 by_cases h1 : a.Type' = b.Type'
 ·rw [if_neg (by simp [h1])]
  by_cases h2 : a.Channel = b.Channel
  ·rw [if_neg (by simp [h2])]
   by_cases h3 : a.Ext = b.Ext
   ·rw [if_neg (by simp [h3])]
    by_cases h4 : a.Values.length = b.Values.length
    ·rw [if_neg (by simp [h4])];have := Qk6 hN ha h4 N 0 (by omega) (by omega);rw [Nl, Nl] at this
     have : Yu N a b N 0 = some (decide (a.Values = b.Values)) := by exact_mod_cast this
     rw [this]
     congr 1
     rw [Bool.eq_iff_iff];simp only [decide_eq_true_eq];exact ⟨fun h => Yj.ext' h1 h2 h3 h, fun h => by rw [h]⟩
    rw [if_pos (by omega), decide_eq_false (fun h => h4 (by rw [h]))]
   rw [if_pos h3, decide_eq_false (fun h => h3 (by rw [h]))]
  rw [if_pos h2, decide_eq_false (fun h => h2 (by rw [h]))]
 rw [if_pos h1, decide_eq_false (fun h => h1 (by rw [h]))]
theorem Qm7 {N : Nat} (hN : 800000000 ≤ N) {f : Yj} (hl : f.Values.length ≤ 6) : ∀ (n i : Nat), i ≤ f.Values.length → f.Values.length - i < n → ∃ b, Z1 N f n (i : Int) = some b ∧ (b = true → ∀ x ∈ f.Values.drop i, x.sz ≤ 40 ∧ x.txt)
 | 0, i, _, h => by omega
 | n + 1, i, hi, hn => by
  simp only [Z1, Q3q, Qlq, Q2y, Qa5]
  by_cases h : i < f.Values.length
  ·rw [if_pos (by omega), Ld h];obtain ⟨b1, l1, l2⟩ := Qql N f.Values[i] (by omega);simp only [Lg, l1]
   cases b1 with
   | false => exact ⟨false, rfl, fun h => by cases h⟩
   | true =>
    rw [Qbu _ (by omega)];obtain ⟨b, e1, e2⟩ := Qm7 hN hl n (i + 1) (by omega) (by omega);refine ⟨b, ?_, fun hb x hx => ?_⟩
    ·simp only [Mh, Lj, if_false]; exact_mod_cast e1
    rw [Ns h] at hx
    rcases Mk.1 hx with rfl | hx
    ·exact l2 rfl
    exact e2 hb x hx
  rw [if_neg (by omega), Mt (by omega)];exact ⟨true, rfl, fun _ x hx => by cases hx⟩
theorem Qnm {N : Nat} (hN : 800000000 ≤ N) (f : Yj) : ∃ b, Zv N f = some b ∧ (b = true → f.Values.length ≤ 6 ∧ f.Ext.length ≤ 1100 ∧ ∀ x ∈ f.Values, x.sz ≤ 40 ∧ x.txt) := by
 simp only [Zv, Q3q, Qt0, Q2y]
 by_cases h1 : (f.Values.length : Int) > 6
 ·rw [if_pos h1]; exact ⟨false, rfl, fun h => by cases h⟩
 rw [if_neg h1]
 by_cases h2 : (f.Ext.length : Int) > 1100
 ·rw [if_pos h2]; exact ⟨false, rfl, fun h => by cases h⟩
 rw [if_neg h2];obtain ⟨b, e1, e2⟩ := Qm7 hN (f := f) (by omega) N 0 (by omega) (by omega);refine ⟨b, by exact_mod_cast e1, fun hb => ⟨by omega, by omega, ?_⟩⟩;have := e2 hb
 rwa [Nl] at this
theorem Qhz : ∀ (l : List Q1), (∀ x ∈ l, x.sz ≤ 40 ∧ x.txt) → Q1.szs l ≤ 40 * l.length ∧ Q1.wgts l ≤ 17200 * l.length
 | [], _ => by simp [Q1.szs, Q1.wgts]
 | x :: m, h => by
  have h1 := h x (.head _);have h2 := Qhz m (fun y hy => h y (.tail _ hy));have h3 := Z12 x h1.2;simp only [Q1.szs, Q1.wgts, Lp]; omega
theorem Qwy {f : Yj} (hl : f.Values.length ≤ 6) (h : ∀ x ∈ f.Values, x.sz ≤ 40 ∧ x.txt) (hv : ∀ x ∈ f.Values, OkV x) : FB f := by
 obtain ⟨h1, h2⟩ := Qhz _ h;exact ⟨fun x hx => Z0y x (hv x hx) (h x hx).2, by omega, by omega⟩
end
end Go.Av
namespace Go.Av
noncomputable section
theorem Qcd (x y : List UInt8) : Q4o .eql x y = decide (x = y) := by
 show (x == y) = _
 by_cases h : x = y
 ·rw [h]; simp
 rw [decide_eq_false h]; exact beq_eq_false_iff_ne.2 h
theorem Qxa (x y : List UInt8) : Q4o .neq x y = decide (x ≠ y) := by
 show (!(x == y)) = _
 by_cases h : x = y
 ·rw [h]; simp
 rw [decide_eq_true h, beq_eq_false_iff_ne.2 h]; rfl
section
variable {T : Type}
theorem Qm4 {L : Nat → Nat → Int → Option Bool} {a b : List T} {eq : T → T → Bool} (heq : ∀ x y, eq x y = true ↔ x = y) (hab : a.length = b.length) (hm : a.length ≤ maxLen)
  (Qu : ∀ N n (i : Nat) (h : i < a.length) (h' : i < b.length), L N (n + 1) (i : Int) = cond (!(eq a[i] b[i])) (some false) (L N n (IntKind.wrap .i64 ((i : Int) + 1)))) (fin : ∀ N n, L N (n + 1) (a.length : Int) = some true) :
  TotP (fun N => L N N 0) (fun v => v = true ↔ a = b) := by
 have hml := Qat;refine Q3y (L := L) a.length (fun i => ∀ j (h : j < a.length) (h' : j < b.length), j < i → a[j] = b[j]) (fun i hi hj => ?_) (fun hj => ?_) (fun j _ _ hj => by omega)
 ·have e : (fun N n => L N (n + 1) (i : Int)) = fun N n => cond (!(eq (a[i]'hi) (b[i]'(by omega)))) (some false) (L N n (IntKind.wrap .i64 ((i : Int) + 1))) := by
   funext N n; exact Qu N n i hi (by omega)
  rw [e, w64 _ (by omega)];refine Stp.cond (fun h => Stp.ret ?_) (fun h => Stp.go (L := L) _ ⟨by omega, fun j hj1 hj2 hji => ?_⟩)
  ·have h : ¬ eq (a[i]'hi) (b[i]'(by omega)) = true := by simpa using h
   refine ⟨fun h => (by cases h), fun e => absurd ((heq _ _).2 ?_) h⟩;subst e; rfl
  have h : eq (a[i]'hi) (b[i]'(by omega)) = true := by simpa using h
  by_cases e : j = i
  ·subst e; exact (heq _ _).1 h
  exact hj j hj1 hj2 (by omega)
 have e : (fun N n => L N (n + 1) (a.length : Int)) = fun _ _ => some true := by funext N n; exact fin N n
 rw [e];exact Stp.ret ⟨fun _ => List.ext_getElem hab (fun j h1 h2 => hj j h1 h2 h1), fun _ => rfl⟩
end
theorem Z32 {x y : Ql} : (((x.ID : Int) == y.ID) && (((x.N' : Int) == y.N') && (((x.Text : List UInt8) == y.Text) && (((x.Value : List UInt8) == y.Value) && true)))) = true ↔ x = y := by
 cases x; cases y; simp
theorem Zja {x y : Q0t} : (((x.Radius : Int) == y.Radius) && (((x.Node : List UInt8) == y.Node) && true)) = true ↔ x = y := by
 cases x; cases y; simp
theorem Z0k {x y : Qn} : (((x.Topic : List UInt8) == y.Topic) && (((x.QoS : Int) == y.QoS) && (((x.NoLocal : Bool) == y.NoLocal) && (((x.AsPublished : Bool) == y.AsPublished) && (((x.Handling : Int) == y.Handling) && true))))) = true ↔ x = y := by
 cases x; cases y; simp
theorem Qdr (a b : List Ql) (ha : a.length ≤ maxLen) : TotP (fun N => Wq N a b) (fun v => v = true ↔ a = b) := by
 unfold Wq;rw [Q5, Q5, Q1x];refine TotP.cond (fun h => .ret ⟨fun h => (by cases h), fun e => ?_⟩) (fun h => ?_)
 ·have := of_decide_eq_true h; subst e; exact absurd rfl this
 have h := of_decide_eq_false h
 have hab : a.length = b.length := by omega
 refine Qm4 (L := fun N n i => Xj N a b n i) (eq := fun x y => ((x.ID : Int) == y.ID) && (((x.N' : Int) == y.N') && (((x.Text : List UInt8) == y.Text) && (((x.Value : List UInt8) == y.Value) && true)))) (fun _ _ => Z32) hab ha (fun N n i h h' => ?_) (fun N n => ?_)
 ·show cond (Q3 .lss (i : Int) ((Q8 Ql.cells a).length : Int)) ((idx a (i : Int)).bind _) _ = _;rw [Q5, Qm, decide_eq_true (by omega), Qw h, Qw h']; rfl
 show cond (Q3 .lss (a.length : Int) ((Q8 Ql.cells a).length : Int)) _ _ = _;rw [Q5, Qm, decide_eq_false (by omega)]; rfl
theorem Qlt (a b : List Ql) (ha : a.length ≤ maxLen) : TotP (fun N => Q56 N a b) (fun v => v = true ↔ a = b) := by
 unfold Q56;rw [Q5, Q5, Q1x];refine TotP.cond (fun h => .ret ⟨fun h => (by cases h), fun e => ?_⟩) (fun h => ?_)
 ·have := of_decide_eq_true h; subst e; exact absurd rfl this
 have h := of_decide_eq_false h
 have hab : a.length = b.length := by omega
 refine Qm4 (L := fun N n i => Gj N a b n i) (eq := fun x y => ((x.ID : Int) == y.ID) && (((x.N' : Int) == y.N') && (((x.Text : List UInt8) == y.Text) && (((x.Value : List UInt8) == y.Value) && true)))) (fun _ _ => Z32) hab ha (fun N n i h h' => ?_) (fun N n => ?_)
 ·show cond (Q3 .lss (i : Int) ((Q8 Ql.cells a).length : Int)) ((idx a (i : Int)).bind _) _ = _;rw [Q5, Qm, decide_eq_true (by omega), Qw h, Qw h']; rfl
 show cond (Q3 .lss (a.length : Int) ((Q8 Ql.cells a).length : Int)) _ _ = _;rw [Q5, Qm, decide_eq_false (by omega)]; rfl
theorem Qmv (a b : List Q0t) (ha : a.length ≤ maxLen) : TotP (fun N => Yd N a b) (fun v => v = true ↔ a = b) := by
 unfold Yd;rw [Q5, Q5, Q1x];refine TotP.cond (fun h => .ret ⟨fun h => (by cases h), fun e => ?_⟩) (fun h => ?_)
 ·have := of_decide_eq_true h; subst e; exact absurd rfl this
 have h := of_decide_eq_false h
 have hab : a.length = b.length := by omega
 refine Qm4 (L := fun N n i => Zf N a b n i) (eq := fun x y => ((x.Radius : Int) == y.Radius) && (((x.Node : List UInt8) == y.Node) && true)) (fun _ _ => Zja) hab ha (fun N n i h h' => ?_) (fun N n => ?_)
 ·show cond (Q3 .lss (i : Int) ((Q8 Q0t.cells a).length : Int)) ((idx a (i : Int)).bind _) _ = _;rw [Q5, Qm, decide_eq_true (by omega), Qw h, Qw h']; rfl
 show cond (Q3 .lss (a.length : Int) ((Q8 Q0t.cells a).length : Int)) _ _ = _;rw [Q5, Qm, decide_eq_false (by omega)]; rfl
theorem Qgx (a b : List Qn) (ha : a.length ≤ maxLen) : TotP (fun N => V1 N a b) (fun v => v = true ↔ a = b) := by
 unfold V1;rw [Q5, Q5, Q1x];refine TotP.cond (fun h => .ret ⟨fun h => (by cases h), fun e => ?_⟩) (fun h => ?_)
 ·have := of_decide_eq_true h; subst e; exact absurd rfl this
 have h := of_decide_eq_false h
 have hab : a.length = b.length := by omega
 refine Qm4 (L := fun N n i => Yk N a b n i) (eq := fun x y => ((x.Topic : List UInt8) == y.Topic) && (((x.QoS : Int) == y.QoS) && (((x.NoLocal : Bool) == y.NoLocal) && (((x.AsPublished : Bool) == y.AsPublished) && (((x.Handling : Int) == y.Handling) && true))))) (fun _ _ => Z0k) hab ha (fun N n i h h' => ?_) (fun N n => ?_)
 ·show cond (Q3 .lss (i : Int) ((Q8 Qn.cells a).length : Int)) ((idx a (i : Int)).bind _) _ = _;rw [Q5, Qm, decide_eq_true (by omega), Qw h, Qw h']; rfl
 show cond (Q3 .lss (a.length : Int) ((Q8 Qn.cells a).length : Int)) _ _ = _;rw [Q5, Qm, decide_eq_false (by omega)]; rfl
theorem Qmj (a b : List Int) (ha : a.length ≤ maxLen) : TotP (fun N => Q0c N a b) (fun v => v = true ↔ a = b) := by
 unfold Q0c;rw [Q5, Q5, Q1x];refine TotP.cond (fun h => .ret ⟨fun h => (by cases h), fun e => ?_⟩) (fun h => ?_)
 ·have := of_decide_eq_true h; subst e; exact absurd rfl this
 have h := of_decide_eq_false h
 have hab : a.length = b.length := by omega
 refine Qm4 (L := fun N n i => Vt N a b n i) (eq := fun x y => Q3 .eql x y) (fun x y => by rw [Q1b]; exact decide_eq_true_iff) hab ha (fun N n i h h' => ?_) (fun N n => ?_)
 ·show cond (Q3 .lss (i : Int) ((Q8 (cI .i64) a).length : Int)) ((idx a (i : Int)).bind _) _ = _;rw [Q5, Qm, decide_eq_true (by omega), Qw h, Qw h']; rfl
 show cond (Q3 .lss (a.length : Int) ((Q8 (cI .i64) a).length : Int)) _ _ = _;rw [Q5, Qm, decide_eq_false (by omega)]; rfl
structure Z3o (p : Qa) : Prop where
 codes : p.Codes.length ≤ maxLen
 filters : p.Filters.length ≤ maxLen
 props : p.Props.length ≤ maxLen
 wprops : p.Will.Props.length ≤ maxLen
theorem Qls (a b : Q10) (ha : a.Props.length ≤ maxLen) : TotP (fun N => Q0l N a b) (fun v => v = true ↔ a = b) := by
 obtain ⟨t, p, q, r, l⟩ := a; obtain ⟨t', p', q', r', l'⟩ := b;unfold Q0l;dsimp only;rw [Qcd, Qcd, Q1b];refine TotP.cond (fun h1 => ?_) (fun h1 => .ret ⟨fun h => (by cases h), fun e => ?_⟩)
 ·refine TotP.cond (fun h2 => ?_) (fun h2 => .ret ⟨fun h => (by cases h), fun e => ?_⟩)
  ·refine TotP.cond (fun h3 => ?_) (fun h3 => .ret ⟨fun h => (by cases h), fun e => ?_⟩)
   ·refine TotP.cond (fun h4 => ?_) (fun h4 => .ret ⟨fun h => (by cases h), fun e => ?_⟩)
    ·refine TotP.bind (Qdr l l' ha) (fun v hv => .ret ?_);rw [hv];have h1 := of_decide_eq_true h1; have h2 := of_decide_eq_true h2; have h3 := of_decide_eq_true h3; have h4 := eq_of_beq h4;subst h1 h2 h3 h4;simp
    injection e with _ _ _ e _; subst e; simp at h4
   injection e with _ _ e _ _; exact absurd e (of_decide_eq_false h3)
  injection e with _ e _ _ _; exact absurd e (of_decide_eq_false h2)
 injection e with e _ _ _ _; exact absurd e (of_decide_eq_false h1)
theorem Qdu (a b : Qa) (ha : Z3o a) : TotP (fun N => Za N a b) (fun v => v = true ↔ a = b) := by
 unfold Za;refine TotP.bindE (.of fun N => rfl) ?_;refine TotP.bindE (.of fun N => rfl) ?_;refine TotP.cond (fun h1 => ?_) (fun h1 => .ret ⟨fun h => (by cases h), fun e => ?_⟩)
 ·refine TotP.bind (Qls a.Will b.Will ha.wprops) (fun v2 h2 => ?_);refine TotP.cond (fun e2 => ?_) (fun e2 => .ret ⟨fun h => (by cases h), fun e => ?_⟩)
  ·refine TotP.bind (Qmj a.Codes b.Codes ha.codes) (fun v3 h3 => ?_);refine TotP.cond (fun e3 => ?_) (fun e3 => .ret ⟨fun h => (by cases h), fun e => ?_⟩)
   ·refine TotP.bind (Qgx a.Filters b.Filters ha.filters) (fun v4 h4 => ?_);refine TotP.cond (fun e4 => ?_) (fun e4 => .ret ⟨fun h => (by cases h), fun e => ?_⟩)
    ·refine TotP.bind (Qdr a.Props b.Props ha.props) (fun v5 h5 => .ret ?_);rw [h5];have e2 := h2.1 e2; have e3 := h3.1 e3; have e4 := h4.1 e4;obtain ⟨a1, a2, a3, a4, a5, a6, a7, a8, a9, a10, a11, a12, a13, a14, a15, a16, a17, a18, a19, a20, a21⟩ := a;obtain ⟨b1, b2, b3, b4, b5, b6, b7, b8, b9, b10, b11, b12, b13, b14, b15, b16, b17, b18, b19, b20, b21⟩ := b;dsimp only at e2 e3 e4 ⊢;simp at h1;simp [h1, e2, e3, e4]
    subst e; exact absurd (h4.2 rfl) (by rw [e4]; simp)
   subst e; exact absurd (h3.2 rfl) (by rw [e3]; simp)
  subst e; exact absurd (h2.2 rfl) (by rw [e2]; simp)
 subst e; simp at h1
end
end Go.Av
namespace Go.Av
noncomputable section
theorem Q5y (n : Int) (size : Nat) (h0 : 1 ≤ size) (h16 : size ≤ 16) : TotP (fun N => Qk N n (size : Int)) (fun l => l.length = size) := by
 show TotP (fun N => cond (Q3 .leq (size : Int) 0) _ _) _;rw [Q1z];refine TotP.cond (fun h => by have := of_decide_eq_true h; omega) (fun _ => ?_)
 have hm : ifB (decide (16 < (size : Int))) (16 : Int) (size : Int) = (size : Int) := by rw [decide_eq_false (by omega)]; rfl
 rw [hm];refine TotP.chk (by simp only [La, decide_eq_true_eq]; omega) ?_;have := Q8b (L := fun N n' (p : Int × List Int) => Xc N n (size : Int) n' p.1 p.2) (Q := fun l : List UInt8 => l.length = size) (fun p => ∃ i : Nat, p.1 = (i : Int) ∧ i ≤ size ∧ p.2.length = size) (fun p => size - p.1.toNat)
  ?_ (0, List.replicate ((size : Int).toNat) 0) ⟨0, rfl, by omega, by simp⟩
 ·exact this
 rintro ⟨s, l⟩ ⟨i, hs, hi, hl⟩
 simp only at hs hl
 subst hs;show Stp _ _ _ (fun N n' => cond (Q3 .lss (i : Int) (ifB (decide (16 < (size : Int))) 16 (size : Int))) _ _);rw [hm, Qm, Qm];refine Stp.cond (fun h => ?_) (fun h => ?_)
 ·have h := of_decide_eq_true h
  have e1 : IntKind.wrap .i64 ((i : Int) + 1) = ((i + 1 : Nat) : Int) := by rw [w64 _ (by omega)]; omega
  refine Stp.cond (fun h8 => ?_) (fun h8 => ?_)
  ·have h8 := of_decide_eq_true h8;refine Stp.chk ?_ ?_
   ·rw [w64 (8 * (i : Int)) (by omega)]
    have : i = 0 ∨ i = 1 ∨ i = 2 ∨ i = 3 ∨ i = 4 ∨ i = 5 ∨ i = 6 ∨ i = 7 := by omega
    rcases this with rfl | rfl | rfl | rfl | rfl | rfl | rfl | rfl <;> rfl
   have e2 : IntKind.wrap .i64 (IntKind.wrap .i64 ((size : Int) - 1) - (i : Int)) = ((size - 1 - i : Nat) : Int) := by rw [w64 ((size : Int) - 1) (by omega), w64 _ (by omega)]; omega
   rw [e1, e2];refine Stp.idx (Qw (show size - 1 - i < l.length by omega)) ?_;refine Stp.go (L := fun N n' (p : Int × List Int) => Xc N n (size : Int) n' p.1 p.2) (_, _) ⟨⟨i + 1, rfl, by omega, by simp [hl]⟩, ?_⟩;simp only [Lt]; omega
  rw [e1];refine Stp.go (L := fun N n' (p : Int × List Int) => Xc N n (size : Int) n' p.1 p.2) (_, _) ⟨⟨i + 1, rfl, by omega, hl⟩, ?_⟩;simp only [Lt]; omega
 exact Stp.ret (by simp [hl])
theorem Q6d {R : Type} {f : Nat → Option R} {r : R} (h : Tot f r) : Any f := ⟨r, trivial, h⟩
theorem TotP.any {R : Type} {f : Nat → Option R} {Q : R → Prop} (h : TotP f Q) : Any f := h.mono fun _ _ => trivial
theorem Zev {k : Int} (h : 0 ≤ k ∧ k ≤ 18446744073709551615) : IntKind.wrap .u64 k = k := IntWalk.u64_in k h
theorem Qxk (r : Qj) (k : Int) : Any (fun N => Uu N r k) := by
 unfold Uu;rw [Q59, Q1z];refine TotP.cond (fun h1 => ?_) (fun _ => .ret trivial);refine TotP.cond (fun h2 => ?_) (fun _ => .ret trivial);have h1 := of_decide_eq_true h1; have h2 := of_decide_eq_true h2;exact TotP.chk (by rw [Zev (by omega), decide_eq_true_eq]; omega) (.ret trivial)
theorem Qrk (r : Qj) (k : Int) (p : Ql) (h1 : p.Text.length ≤ maxLen) : Any (fun N => Q0o N r k p) := by
 refine TotP.bind (Qxk r k) (fun _ _ => ?_)
 have num : Any (fun N => J9 N r p) := by
  unfold J9
  repeat' first
   | exact TotP.ret trivial
   | refine TotP.cond (fun _ => ?_) (fun _ => ?_)
 have hV : ∀ s, Any (fun N => Qz N s) := fun s => Q6d (Q6o s);have hN : Any (fun N => Z5 N p.Text) := Q6d (Q7j _ h1)
 repeat' first
  | exact TotP.ret trivial
  | refine TotP.cond (fun _ => ?_) (fun _ => ?_)
  | refine TotP.bind (by first | exact hV _ | exact hN | exact num) (fun _ _ => ?_)
theorem Qqi (k i : Int) : Any (fun N => Q28 N k i) := by
 unfold Q28
 repeat' first
  | exact TotP.ret trivial
  | refine TotP.cond (fun _ => ?_) (fun _ => ?_)
theorem Qud (k : Int) (p : Ql) : Tot (fun N => Q0o N ⟨0, 0, 0, 0⟩ k p) 9 := by
 refine .of fun N => ?_
 have e : Uu N ⟨0, 0, 0, 0⟩ k = some false := by
  unfold Uu;rw [Q59, Q1z]
  by_cases h1 : k ≥ 1
  ·by_cases h2 : k ≤ 16
   ·rw [decide_eq_true h1, decide_eq_true h2]
    have : k = 1 ∨ k = 2 ∨ k = 3 ∨ k = 4 ∨ k = 5 ∨ k = 6 ∨ k = 7 ∨ k = 8 ∨ k = 9 ∨ k = 10 ∨ k = 11 ∨ k = 12 ∨ k = 13 ∨ k = 14 ∨ k = 15 ∨ k = 16 := by omega
    rcases this with rfl | rfl | rfl | rfl | rfl | rfl | rfl | rfl | rfl | rfl | rfl | rfl | rfl | rfl | rfl | rfl <;> rfl
   rw [decide_eq_true h1, decide_eq_false h2]; rfl
  rw [decide_eq_false h1]; rfl
 unfold Q0o;rw [e]; rfl
def Qve (k : Int) (l : List Ql) (N n : Nat) (p : Int × List Int × List Int) : Option (List UInt8 × Int) := Ze N k l n p.1 p.2.1 p.2.2
theorem Qr1 (k : Int) (l : List Ql) (hl : l.length ≤ 30) (hp : ∀ p ∈ l, p.Text.length ≤ maxLen) (a : List Int) (ha : a.length = 64) : TotP (fun N => Ze N k l N 0 a []) (fun r => r.1.length ≤ 9000000000) := by
 have := Q8b (L := Qve k l) (Q := fun r => r.1.length ≤ 9000000000) (fun p => ∃ i : Nat, p.1 = (i : Int) ∧ i ≤ l.length ∧ p.2.1.length = 64 ∧ p.2.2.length ≤ i * 268600000) (fun p => l.length - p.1.toNat)
  ?_ (0, a, []) ⟨0, rfl, by omega, ha, by simp⟩
 ·exact this
 rintro ⟨s, b, o⟩ ⟨i, hs, hi, hb, ho⟩
 simp only at hs hb ho
 subst hs;show Stp _ _ _ (fun N n' => cond (Q3 .lss (i : Int) ((Q8 Ql.cells l).length : Int)) _ _);rw [Q5, Qm];refine Stp.cond (fun h => ?_) (fun h => ?_)
 ·have h := of_decide_eq_true h
  have hi : i < l.length := by omega
  refine Stp.idx (Qw hi) ?_;have hT := hp _ (Mf hi);generalize l[i] = y at hT
  have e1 : IntKind.wrap .i64 ((i : Int) + 1) = ((i + 1 : Nat) : Int) := by rw [w64 _ (by omega)]; omega
  have go : ∀ (b' o' : List Int), b'.length = 64 → o'.length ≤ (i + 1) * 268600000 → Stp (Qve k l) (fun s' => (∃ i : Nat, s'.1 = (i : Int) ∧ i ≤ l.length ∧ s'.2.1.length = 64 ∧ s'.2.2.length ≤ i * 268600000) ∧ l.length - s'.1.toNat < l.length - (i : Int).toNat) (fun r => r.1.length ≤ 9000000000) (fun N n => Ze N k l n (IntKind.wrap .i64 ((i : Int) + 1)) b' o') := by
   intro b' o' h1 h2;rw [e1];exact Stp.go (L := Qve k l) ((i + 1 : Nat), b', o') ⟨⟨i + 1, rfl, by omega, h1, h2⟩, by simp only [Lt]; omega⟩
  show Stp _ _ _ (fun N n => optC (Q8q F_prop_rules_tab y.ID) _ _)
  cases hk : Q8q F_prop_rules_tab y.ID with
  | none =>
   refine Stp.optN ?_;refine Stp.bind (V := (· = 9)) ⟨9, rfl, Qud k y⟩ (fun v hv => ?_);subst hv;exact Stp.cond (fun _ => Stp.ret (by simp)) (fun h => nomatch h)
  | some r =>
   have hid := Qxm hk;obtain ⟨q, hk'⟩ : ∃ q : Nat, y.ID = (q : Int) := ⟨y.ID.toNat, by omega⟩
   have hk64 : q < 64 := by omega
   refine Stp.optS ?_;refine Stp.bind (Qrk r k y hT) (fun v _ => ?_);refine Stp.cond (fun _ => Stp.ret (by simp)) (fun _ => ?_);refine Stp.chk (by rw [hk']; simp only [La, decide_eq_true_eq]; omega) ?_;rw [hk'];refine Stp.idx (Qw (show q < b.length by omega)) ?_;refine Stp.idx (Qw (show q < b.length by omega)) ?_;refine Stp.idx (Qw (show q < (b.set _ _).length by rw [Nz]; omega)) ?_
   have hb' : ∀ x y, (b.set x y).length = 64 := fun x y => by rw [Nz]; exact hb
   have tail : Stp (Qve k l) (fun s' => (∃ i : Nat, s'.1 = (i : Int) ∧ i ≤ l.length ∧ s'.2.1.length = 64 ∧ s'.2.2.length ≤ i * 268600000) ∧ l.length - s'.1.toNat < l.length - (i : Int).toNat) (fun r => r.1.length ≤ 9000000000)
     (fun N n => cond (Nat.ble ((o.length + 1 + 4096) * 1) 17592186044416) ((Jx N r.shape y).bind fun v130 =>
      cond (Nat.beq v130.length 0)
      (Ze N k l n (IntKind.wrap .i64 ((i : Int) + 1)) (b.set (Int.toNat (q : Int)) (IntKind.wrap .i64 (b[q] + 1))) (o ++ [(IntKind.wrap .u8 (q : Int))]))
      (cond (Nat.ble (((o.length + 1) + v130.length + 4096) * 1) 17592186044416) (Ze N k l n (IntKind.wrap .i64 ((i : Int) + 1)) (b.set (Int.toNat (q : Int)) (IntKind.wrap .i64 (b[q] + 1))) ((o ++ [(IntKind.wrap .u8 (q : Int))]) ++ (v130.map fun b => (b.toNat : Int)))) none)) none) := by
    refine Stp.chk (by rw [Lk]; omega) ?_;refine Stp.bind (Qv1 _ _) (fun v hv => ?_);refine Stp.cond (fun _ => go _ _ (hb' _ _) (by simp only [Li, Lp, Lo]; omega)) (fun _ => ?_);refine Stp.chk (by rw [Lk]; omega) ?_;exact go _ _ (hb' _ _) (by simp only [Li, Lp, Lo, Ls]; omega)
   refine Stp.cond (fun _ => ?_) (fun _ => tail);refine Stp.bind (Qqi _ _) (fun v _ => ?_);exact Stp.cond (fun _ => Stp.ret (by simp)) (fun _ => tail)
 refine Stp.fin ?_
 have vb : TotP (fun N => (Jf N (o.length : Int)).bind fun v169 => cond (Q3 .neq v169.2 0) (some (([] : List UInt8), (4 : Int))) (cond (Nat.ble (v169.1.length + (o.map fun n => UInt8.ofNat n.toNat).length) 4611686018427387904) (some ((v169.1 ++ (o.map fun n => UInt8.ofNat n.toNat)), 0)) none)) (fun r => r.1.length ≤ 9000000000) := by
  refine TotP.bind (Qhe _) (fun v hv => ?_);refine TotP.cond (fun _ => .ret (by simp)) (fun _ => ?_);exact TotP.chk (by rw [Lk, Ls]; omega) (.ret (by simp only [Li, Ls]; omega))
 refine TotP.idx (Qw (show 22 < b.length by omega)) ?_;refine TotP.cond (fun _ => ?_) (fun _ => vb);refine TotP.idx (Qw (show 21 < b.length by omega)) ?_;exact TotP.cond (fun _ => .ret (by simp)) (fun _ => vb)
structure OkP (l : List Ql) : Prop where
 len : l.length ≤ 30
 txt : ∀ p ∈ l, p.Text.length ≤ maxLen
theorem Q2d (k : Int) (l : List Ql) (h : OkP l) : TotP (fun N => Wt N k l) (fun r => r.1.length ≤ 9000000000) := by
 unfold Wt;exact TotP.cond (fun _ => .ret (by simp)) (fun _ => Qr1 k l h.len h.txt _ rfl)
theorem Q9f (k : Int) (l : List Ql) (h : OkP l) : Any (fun N => Zl N k l) := TotP.bind (Q2d k l h) (fun _ _ => .ret trivial)
theorem Qif (k c : Int) : Any (fun N => Ju N k c) := by
 obtain ⟨w0, w1, w2, w3, e, _⟩ := Qkk k;unfold Ju Z3k;rw [e];unfold Z3l;rw [Q59, Qm];refine TotP.cond (fun h1 => ?_) (fun _ => .ret trivial);refine TotP.cond (fun h2 => ?_) (fun _ => .ret trivial);have h1 := of_decide_eq_true h1; have h2 := of_decide_eq_true h2;have e1 : c.tdiv 64 = c / 64 := Int.tdiv_eq_ediv_of_nonneg h1;have e2 : c.tmod 64 = c % 64 := Bo h1;rw [e1, e2, w64 _ (by omega)]
 have : c / 64 = 0 ∨ c / 64 = 1 ∨ c / 64 = 2 ∨ c / 64 = 3 := by omega
 have hk : decide (0 ≤ IntKind.wrap .u64 (c % 64)) = true := by rw [Zev (by omega), decide_eq_true_eq]; omega
 rcases this with h | h | h | h <;> rw [h] <;> exact TotP.bindE (.of fun _ => rfl) (TotP.chk hk (.ret trivial))
structure Qvb (p : Qa) : Prop where
 l : Z3o p
 props : OkP p.Props
 wprops : OkP p.Will.Props
 topic : p.Topic.length ≤ 2000
 payload : p.Payload.length ≤ 2000
 client : p.Client.length ≤ 2000
 user : p.User.length ≤ 2000
 pass : p.Pass.length ≤ 2000
 wtopic : p.Will.Topic.length ≤ 2000
 wpayload : p.Will.Payload.length ≤ 2000
 codes : p.Codes.length ≤ 30
 filters : p.Filters.length ≤ 30 ∧ ∀ f ∈ p.Filters, f.Topic.length ≤ 2000
theorem ml2 : 2000 ≤ maxLen := by unfold maxLen; decide
section
variable {p : Qa} (h : Qvb p)
include h
theorem Q9i (q : Qa) : Any (fun N => Za N p q) := (Qdu p q h.l).any
theorem Qiw (k : Int) : Any (fun N => Zl N k p.Props) := Q9f k _ h.props
theorem Qy2 (v : Int) : Any (fun N => Q5m N v p) := by
 have hk : ∀ a b, Any (fun N => Q53 N a b) := fun a b => by
  unfold Q53
  repeat' first
   | exact TotP.ret trivial
   | refine TotP.cond (fun _ => ?_) (fun _ => ?_)
 unfold Q5m
 repeat' first
  | exact TotP.ret trivial
  | refine TotP.cond (fun _ => ?_) (fun _ => ?_)
  | refine TotP.bind (by first | exact hk _ _ | exact Qif _ _ | exact Q9i h _ | exact Qiw h _) (fun _ _ => ?_)
theorem Qww (v : Int) : TotP (fun N => Q6m N v p) (fun r => r.1.length ≤ 10000000000) := by
 unfold Q6m;refine TotP.bind (Qy2 h v) (fun a _ => ?_);refine TotP.cond (fun _ => .ret (by simp)) (fun _ => ?_);refine TotP.bind (Jd _ _) (fun b hb => ?_);refine TotP.cond (fun _ => ?_) (fun _ => ?_)
 ·refine TotP.bind (Jd _ _) (fun c hc => ?_);refine TotP.chk (by rw [Lk]; omega) ?_;refine TotP.cond (fun _ => ?_) (fun _ => .ret (by simp; omega));refine TotP.bind (Q2d _ _ h.props) (fun d hd => ?_);exact TotP.chk (by rw [Lk]; simp only [Li]; omega) (.ret (by simp only [Li]; omega))
 refine TotP.cond (fun _ => ?_) (fun _ => .ret (by dsimp only; omega));refine TotP.bind (Jd _ _) (fun c hc => ?_);refine TotP.chk (by rw [Lk]; omega) ?_;refine TotP.bind (Q2d _ _ h.props) (fun d hd => ?_);exact TotP.chk (by rw [Lk]; simp only [Li]; omega) (.ret (by simp only [Li]; omega))
theorem Qx3 (v : Int) : Any (fun N => Q06 N v p) := by
 have hs : ∀ a b, Any (fun N => Gk N a b) := fun a b => by
  unfold Gk Wk U7
  repeat' first
   | exact TotP.ret trivial
   | refine TotP.cond (fun _ => ?_) (fun _ => ?_)
   | refine TotP.bindE (.of fun _ => rfl) ?_
 have hk : ∀ a b, Any (fun N => Q0r N a b) := fun a b => by
  unfold Q0r
  repeat' first
   | exact TotP.ret trivial
   | refine TotP.cond (fun _ => ?_) (fun _ => ?_)
   | refine TotP.bind (by first | exact hs _ _) (fun _ _ => ?_)
 unfold Q06
 repeat' first
  | exact TotP.ret trivial
  | refine TotP.cond (fun _ => ?_) (fun _ => ?_)
  | refine TotP.bind (by first | exact hk _ _ | exact hs _ _ | exact Qif _ _ | exact Q9i h _ | exact Qiw h _) (fun _ _ => ?_)
theorem Qwf (v : Int) : TotP (fun N => Q1j N v p) (fun r => r.1.length ≤ 10000000000) := by
 unfold Q1j;refine TotP.bind (Qx3 h v) (fun a _ => ?_);refine TotP.cond (fun _ => .ret (by simp)) (fun _ => ?_);refine TotP.bind (V := fun l => l.length ≤ 10000000000) ?_ (fun b hb => .ret hb);unfold Q3s;refine TotP.bind (Q2d _ _ h.props) (fun d hd => ?_);refine TotP.cond (fun _ => .ret (by simp)) (fun _ => ?_);refine TotP.cond (fun _ => .ret (by simp)) (fun _ => ?_);refine TotP.cond (fun _ => .ret (by simp)) (fun _ => ?_);refine TotP.bind (Jd _ _) (fun b hb => ?_);refine TotP.cond (fun _ => ?_) (fun _ => ?_)
 ·exact TotP.chk (by rw [Lk]; omega) (.ret (by simp only [Li]; omega))
 exact TotP.cond (fun _ => .ret (by omega)) (fun _ => .ret (by simp))
end
end
end Go.Av
namespace Go.Av
noncomputable section
theorem Qn7 : ∀ (l : List UInt8) (c : UInt8) (n : Nat), Qcj l c n ≤ n + l.length
 | [], _, n => Ln _
 | b :: l, c, n => by
  unfold Qcj;split
  ·have := Qn7 l c (n + 1); simp only [Lp]; omega
  have := Qn7 l c n; simp only [Lp]; omega
theorem Qni : ∀ (l : List UInt8) (c : UInt8) (i : Nat), Qhi l c i = -1 ∨ ∃ k : Nat, Qhi l c i = (k : Int) ∧ i ≤ k ∧ k < i + l.length
 | [], _, i => .inl rfl
 | b :: l, c, i => by
  unfold Qhi;split
  ·exact .inr ⟨i, rfl, Ln _, by simp⟩
  rcases Qni l c (i + 1) with h | ⟨k, h1, h2, h3⟩
  ·exact .inl h
  exact .inr ⟨k, h1, by omega, by simp only [Lp]; omega⟩
def Z3i (s : List UInt8) (N n : Nat) (p : List UInt8 × Int × List (List UInt8)) : Option (List (List UInt8)) := Wb N s n p.1 p.2.1 p.2.2
theorem Qrp (s : List UInt8) (hs : s.length ≤ 70000) : TotP (fun N => Q1k N s) (fun l => l.length ≤ 70001 ∧ ∀ x ∈ l, x.length ≤ 70000) := by
 unfold Q1k;refine TotP.cond (fun h => by rw [Qcd] at h; exact absurd (of_decide_eq_true h) (by simp)) (fun _ => ?_);obtain ⟨c, hcd⟩ : ∃ c, Qcj s (UInt8.ofNat (Int.toNat 47)) 0 = c := ⟨_, rfl⟩;have hc := Qn7 s (UInt8.ofNat (Int.toNat 47)) 0;rw [hcd] at hc ⊢;have e1 : IntKind.wrap .i64 ((s.length : Int) + 1) = (s.length : Int) + 1 := w64 _ (by omega);have e2 : IntKind.wrap .i64 ((c : Int) + 1) = (c : Int) + 1 := w64 _ (by omega)
 have hn : (ifB (decide (IntKind.wrap .i64 ((s.length : Int) + 1) < IntKind.wrap .i64 ((c : Int) + 1))) (IntKind.wrap .i64 ((s.length : Int) + 1)) (IntKind.wrap .i64 ((c : Int) + 1))) = ((c + 1 : Nat) : Int) := by
  rw [e1, e2, decide_eq_false (by omega)]; show (c : Int) + 1 = _; omega
 have hm : IntKind.wrap .i64 (((c + 1 : Nat) : Int) - 1) = (c : Int) := by rw [w64 _ (by omega)]; omega
 rw [hn];refine TotP.chk (by simp only [La, decide_eq_true_eq]; omega) ?_;have := Q8b (L := Z3i s) (Q := fun l => l.length ≤ 70001 ∧ ∀ x ∈ l, x.length ≤ 70000) (fun p => p.1.length ≤ s.length ∧ ∃ i : Nat, p.2.1 = (i : Int) ∧ i ≤ c ∧ p.2.2.length = c + 1 ∧ ∀ x ∈ p.2.2, x.length ≤ 70000) (fun p => c - p.2.1.toNat)
  ?_ (s, 0, List.replicate (((c + 1 : Nat) : Int).toNat) []) ⟨Ln _, 0, rfl, by omega, by simp, fun x hx => by simp at hx; simp [hx]⟩
 ·exact this
 rintro ⟨t, j, l⟩ ⟨ht, i, hi, hic, hl, hx⟩
 simp only at ht hi hl hx
 subst hi
 have hset : ∀ (y : List UInt8), y.length ≤ 70000 → ∀ x ∈ l.set (Int.toNat (i : Int)) y, x.length ≤ 70000 := fun y hy x hxm => by
  rcases List.mem_or_eq_of_mem_set hxm with h | h
  ·exact hx x h
  rw [h]; exact hy
 have ei : IntKind.wrap .i64 ((i : Int) + 1) = ((i + 1 : Nat) : Int) := by rw [w64 _ (by omega)]; omega
 have fin : Stp (Z3i s) (fun p => (p.1.length ≤ s.length ∧ ∃ i : Nat, p.2.1 = (i : Int) ∧ i ≤ c ∧ p.2.2.length = c + 1 ∧ ∀ x ∈ p.2.2, x.length ≤ 70000) ∧ c - p.2.1.toNat < c - (i : Int).toNat) (fun l => l.length ≤ 70001 ∧ ∀ x ∈ l, x.length ≤ 70000)
   (fun (_ : Nat) (_ : Nat) => (idx (l : List (List UInt8)) (i : Int)).bind fun _ => cond (decide (0 ≤ (IntKind.wrap .i64 ((i : Int) + 1)))) (cond (Nat.ble 0 ((IntKind.wrap .i64 ((i : Int) + 1)).toNat) && Nat.ble ((IntKind.wrap .i64 ((i : Int) + 1)).toNat) l.length) (some ((((l : List (List UInt8)).set (Int.toNat (i : Int)) t) : List (List UInt8)).take ((IntKind.wrap .i64 ((i : Int) + 1)).toNat))) none) none) := by
  rw [ei];refine Stp.idx (Qw (show i < l.length by omega)) ?_;refine Stp.chk (by rw [decide_eq_true_eq]; omega) ?_;refine Stp.chk (by simp only [La, Lk, Lt]; omega) ?_;exact Stp.ret ⟨by rw [Ma, Nz]; omega, fun x hxm => hset t (by omega) x (Ce hxm)⟩
 show Stp _ _ _ (fun N n => cond (Q3 .lss (i : Int) (IntKind.wrap .i64 ((ifB (decide (IntKind.wrap .i64 ((s.length : Int) + 1) < IntKind.wrap .i64 ((Qcj s (UInt8.ofNat (Int.toNat 47)) 0 : Int) + 1))) (IntKind.wrap .i64 ((s.length : Int) + 1)) (IntKind.wrap .i64 ((Qcj s (UInt8.ofNat (Int.toNat 47)) 0 : Int) + 1))) - 1))) _ _);rw [hcd, hn, hm, Qm];refine Stp.cond (fun h => ?_) (fun _ => fin);have h := of_decide_eq_true h
 have go : ∀ (t' y : List UInt8), t'.length ≤ s.length → y.length ≤ 70000 → Stp (Z3i s) (fun p => (p.1.length ≤ s.length ∧ ∃ i : Nat, p.2.1 = (i : Int) ∧ i ≤ c ∧ p.2.2.length = c + 1 ∧ ∀ x ∈ p.2.2, x.length ≤ 70000) ∧ c - p.2.1.toNat < c - (i : Int).toNat) (fun l => l.length ≤ 70001 ∧ ∀ x ∈ l, x.length ≤ 70000)
   (fun N n => Wb N s n t' (IntKind.wrap .i64 ((i : Int) + 1)) (l.set (Int.toNat (i : Int)) y)) := fun t' y h1 h2 => by
  rw [ei];exact Stp.go (L := Z3i s) (t', ((i + 1 : Nat) : Int), l.set (Int.toNat (i : Int)) y) ⟨⟨h1, i + 1, rfl, by omega, by rw [Nz]; exact hl, hset y h2⟩, by simp only [Lt]; omega⟩
 refine Stp.cond (fun h2 => ?_) (fun _ => ?_)
 ·rw [Qcd] at h2;have h2 := of_decide_eq_true h2;refine Stp.idx (Qw (show i < l.length by omega)) ?_;refine Stp.chk (by rw [← h2]; rfl) ?_;exact go _ _ (by simp only [Mb, Ma]; omega) (by simp)
 refine Stp.bind (f := fun N => Qr N t 47) (V := fun v => v = Qhi t (UInt8.ofNat (Int.toNat 47)) 0) ⟨_, rfl, .of fun _ => rfl⟩ (fun v hv => ?_);rw [Qm]
 rcases Qni t (UInt8.ofNat (Int.toNat 47)) 0 with h3 | ⟨k, h3, _, h4⟩
 ·rw [hv, h3];exact Stp.cond (fun _ => fin) (fun h => nomatch h)
 rw [hv, h3, decide_eq_false (by omega)]
 have k0 : IntKind.wrap .i64 ((k : Int) + 0) = (k : Int) := by rw [w64 _ (by omega)]; omega
 have k1 : IntKind.wrap .i64 ((k : Int) + 1) = ((k + 1 : Nat) : Int) := by rw [w64 _ (by omega)]; omega
 refine Stp.cond (fun h => nomatch h) (fun _ => ?_);rw [k0, k1];refine Stp.chk (by rw [decide_eq_true_eq]; omega) ?_;refine Stp.chk (by simp only [La, Lk, Lt]; omega) ?_;refine Stp.idx (Qw (show i < l.length by omega)) ?_;refine Stp.chk (by rw [decide_eq_true_eq]; omega) ?_;refine Stp.chk (by simp only [La, Lk, Lt]; omega) ?_;exact go _ _ (by simp only [Mb, Ma]; omega) (by simp only [Mb, Ma]; omega)
end
end Go.Av
namespace Go.Av
noncomputable section
theorem Qqu (s : List UInt8) (hs : s.length ≤ 70000) : TotP (fun N => J0 N s) (fun l => l.length ≤ 80000) := by
 refine TotP.bind (Jd _ _) (fun v hv => ?_);exact TotP.chk (by rw [Lk]; omega) (.ret (by simp only [Li]; omega))
theorem Qo8 (s : List UInt8) (hs : s.length ≤ 2000) : TotP (fun N => Gm N s) (fun r => r.1.length ≤ 80000) := by
 unfold Gm;refine TotP.bindE (Q6o s) ?_;refine TotP.cond (fun _ => .ret (by simp)) (fun _ => ?_);exact TotP.bind (Qqu s (by omega)) (fun v hv => .ret hv)
theorem ml7 : 70000 ≤ maxLen := by unfold maxLen; decide
theorem Qqs (l : List (List UInt8)) (h1 : l.length ≤ 70001) (h2 : ∀ x ∈ l, x.length ≤ 70000) : Any (fun N => Q1p N l) := by
 have hm := ml7
 have hw : ∀ s, Any (fun N => Q0i N s) := fun s => by
  unfold Q0i
  repeat' first
   | exact TotP.ret trivial
   | refine TotP.cond (fun _ => ?_) (fun _ => ?_)
 unfold Q1p;refine Q3y (L := fun N n i => Z6 N l n i) l.length (fun _ => True) (fun i hi _ => ?_) (fun _ => ?_) trivial
 ·show Stp _ _ _ (fun N n => cond (Q3 .lss (i : Int) ((Q8 cS l).length : Int)) _ _);rw [Q5, Qm];refine Stp.cond (fun _ => ?_) (fun _ => Stp.ret trivial);refine Stp.idx (Qw hi) ?_;have hx := h2 _ (Mf hi)
  have hg : Stp (fun N n i => Z6 N l n i) (fun s => s = ((i + 1 : Nat) : Int) ∧ True) (fun _ => True) (fun N n => Z6 N l n (IntKind.wrap .i64 ((i : Int) + 1))) := by
   rw [w64 _ (by omega)];exact Stp.go (L := fun N n i => Z6 N l n i) _ ⟨by omega, trivial⟩
  have hc : Any (fun N => Zu N l[i]) := Q6d (Qe1 _ (by omega))
  have ht : Stp (fun N n i => Z6 N l n i) (fun s => s = ((i + 1 : Nat) : Int) ∧ True) (fun _ => True) (fun N n => (Q0i N l[i]).bind fun v => cond (!v) ((Zu N l[i]).bind fun w => cond w (some false) (Z6 N l n (IntKind.wrap .i64 ((i : Int) + 1)))) (Z6 N l n (IntKind.wrap .i64 ((i : Int) + 1)))) := by
   refine Stp.bind (hw _) (fun _ _ => Stp.cond (fun _ => ?_) (fun _ => hg));exact Stp.bind hc (fun _ _ => Stp.cond (fun _ => Stp.ret trivial) (fun _ => hg))
  exact Stp.cond (fun _ => Stp.cond (fun _ => Stp.ret trivial) (fun _ => ht)) (fun _ => ht)
 show Stp _ _ _ (fun N n => cond (Q3 .lss (l.length : Int) ((Q8 cS l).length : Int)) _ _);rw [Q5, Qm, decide_eq_false (by omega)];exact Stp.ret trivial
theorem Qd2 (s : List UInt8) (hs : s.length ≤ 70000) : Any (fun N => Xy N s) := by
 unfold Xy;refine TotP.bindE (Qof s) ?_;refine TotP.cond (fun _ => ?_) (fun _ => .ret trivial);refine TotP.bind (Qrp s hs) (fun l hl => ?_);exact TotP.bind (Qqs l hl.1 hl.2) (fun _ _ => .ret trivial)
theorem Qz2 (s t : List UInt8) : TotP (fun N => Uk N s t) (fun r => r.1.length ≤ s.length) := by
 unfold Uk;refine TotP.bind (V := fun r => r.1.length ≤ s.length) ?_ (fun v hv => .ret hv);unfold X3;refine TotP.bind (V := fun v => v = true → t.length ≤ s.length) ?_ (fun v hv => ?_)
 ·unfold X4;rw [Q59];refine TotP.cond (fun h => ?_) (fun _ => .ret (fun h => nomatch h));have h := of_decide_eq_true h;exact TotP.chk (by simp only [La, Lk]; omega) (.ret (fun _ => by omega))
 refine TotP.cond (fun _ => .ret (Ln _)) (fun h => ?_);have h := hv (by simpa using h);exact TotP.chk (by simp only [La, Lk]; omega) (.ret (by simp only [Mb, Ma]; omega))
theorem Qrd (s : List UInt8) (hs : s.length ≤ 70000) : Any (fun N => Q1f N s) := by
 have hm := ml7;unfold Q1f;refine TotP.bind (Qz2 _ _) (fun v hv => ?_);obtain ⟨t, b⟩ := v;dsimp only at hv ⊢;have hN : ∀ a b, Any (fun N => Z5 N ((t.take a).drop b)) := fun a b => Q6d (Q7j _ (by simp only [Mb, Ma]; omega));have hF : ∀ a b, Any (fun N => Xy N ((t.take a).drop b)) := fun a b => Qd2 _ (by simp only [Mb, Ma]; omega);have hV : ∀ s, Any (fun N => Qz N s) := fun s => Q6d (Q6o s);rw [Qcd];refine TotP.cond (fun h => ?_) (fun _ => ?_)
 ·have h := of_decide_eq_true h;refine TotP.chk (by rw [← h]; rfl) ?_
  repeat' first
   | exact TotP.ret trivial
   | refine TotP.cond (fun _ => ?_) (fun _ => ?_)
   | refine TotP.bind (by first | exact hV _ | exact hN _ _ | exact hF _ _) (fun _ _ => ?_)
 refine TotP.bind (f := fun N => Qr N t 47) (V := fun v => v = Qhi t (UInt8.ofNat (Int.toNat 47)) 0) ⟨_, rfl, .of fun _ => rfl⟩ (fun v hv2 => ?_);rw [Q59]
 rcases Qni t (UInt8.ofNat (Int.toNat 47)) 0 with h3 | ⟨k, h3, _, h4⟩
 ·rw [hv2, h3];exact TotP.cond (fun h => absurd (of_decide_eq_true h) (by omega)) (fun _ => TotP.cond (fun _ => .ret trivial) (fun _ => .ret trivial))
 rw [hv2, h3]
 have k1 : IntKind.wrap .i64 ((k : Int) + 1) = ((k + 1 : Nat) : Int) := by rw [w64 _ (by omega)]; omega
 rw [k1];refine TotP.cond (fun _ => ?_) (fun _ => ?_)
 ·refine TotP.chk (by rw [decide_eq_true_eq]; omega) ?_;refine TotP.chk (by simp only [La, Lk, Lt]; omega) ?_;refine TotP.chk (by rw [decide_eq_true_eq]; omega) ?_;refine TotP.chk (by simp only [La, Lk, Lt]; omega) ?_
  repeat' first
   | exact TotP.ret trivial
   | refine TotP.cond (fun _ => ?_) (fun _ => ?_)
   | refine TotP.bind (by first | exact hV _ | exact hN _ _ | exact hF _ _) (fun _ _ => ?_)
 exact TotP.cond (fun _ => .ret trivial) (fun _ => .ret trivial)
theorem Qxi (l : List Ql) (hl : l.length ≤ 30) (id : Int) : Any (fun N => Q4y N l id) := by
 unfold Q4y;refine Q3y (L := fun N n i => G6 N l id n i) l.length (fun _ => True) (fun i hi _ => ?_) (fun _ => ?_) trivial
 ·show Stp _ _ _ (fun N n => cond (Q3 .lss (i : Int) ((Q8 Ql.cells l).length : Int)) _ _);refine Stp.cond (fun _ => ?_) (fun _ => Stp.ret trivial);refine Stp.idx (Qw hi) ?_;refine Stp.cond (fun _ => Stp.ret trivial) (fun _ => ?_);rw [w64 _ (by omega)];exact Stp.go (L := fun N n i => G6 N l id n i) _ ⟨by omega, trivial⟩
 show Stp _ _ _ (fun N n => cond (Q3 .lss (l.length : Int) ((Q8 Ql.cells l).length : Int)) _ _);rw [Q5, Qm, decide_eq_false (by omega)];exact Stp.ret trivial
section
variable {p : Qa} (h : Qvb p)
include h
theorem Qvq (v : Int) : Any (fun N => Gw N v p) := by
 have hm := ml2;have ht := h.topic
 have h1 : Any (fun N => Gv N v) := by
  unfold Gv
  repeat' first
   | exact TotP.ret trivial
   | refine TotP.cond (fun _ => ?_) (fun _ => ?_)
 have h2 : ∀ b e, Any (fun N => Wf N b e) := fun b e => by
  unfold Wf
  repeat' first
   | exact TotP.ret trivial
   | refine TotP.cond (fun _ => ?_) (fun _ => ?_)
 have h3 : Any (fun N => Q26 N v p) := by
  unfold Q26 Q66 Q61 Q60
  have a1 : Any (fun N => cond (Q3 .eql v 4) (some true) (some (Q3 .eql v 5))) := by
   repeat' first
    | exact TotP.ret trivial
    | refine TotP.cond (fun _ => ?_) (fun _ => ?_)
  have a2 : Any (fun (N : Nat) => cond (Q3 .eql v 5) (cond (Q3 .geq p.Kind 1) (some (Q3 .leq p.Kind 15)) (some false)) (cond (Q3 .geq p.Kind 1) (some (Q3 .leq p.Kind 14)) (some false))) := by
   repeat' first
    | exact TotP.ret trivial
    | refine TotP.cond (fun _ => ?_) (fun _ => ?_)
  have a3 : Any (fun (N : Nat) => cond (Q3 .eql p.Kind 6) (some (2 : Int)) (cond (Q3 .eql p.Kind 8) (some 2) (cond (Q3 .eql p.Kind 10) (some 2) (some 0)))) := by
   repeat' first
    | exact TotP.ret trivial
    | refine TotP.cond (fun _ => ?_) (fun _ => ?_)
  repeat' first
   | exact TotP.ret trivial
   | refine TotP.cond (fun _ => ?_) (fun _ => ?_)
   | refine TotP.bind (by first | exact a1 | exact a2 | exact a3) (fun _ _ => ?_)
 have h4 : Any (fun N => Uz N v p) := by
  unfold Uz
  repeat' first
   | exact TotP.ret trivial
   | refine TotP.cond (fun _ => ?_) (fun _ => ?_)
   | refine TotP.bind (by first | exact Q9i h _) (fun _ _ => ?_)
 have h5 : Any (fun N => Jl N v p) := by
  unfold Jl Q2t;have b1 : Any (fun N => (Q4y N p.Props 35).bind fun v1 => some ((IntKind.wrap .i64 v1.1.N'), v1.2)) := TotP.bind (Qxi _ h.props.len _) (fun _ _ => .ret trivial);have b2 : Any (fun N => Z5 N p.Topic) := Q6d (Q7j _ (by omega))
  repeat' first
   | exact TotP.ret trivial
   | refine TotP.cond (fun _ => ?_) (fun _ => ?_)
   | refine TotP.bind (by first | exact b1 | exact b2) (fun _ _ => ?_)
 unfold Gw
 repeat' first
  | exact TotP.ret trivial
  | refine TotP.cond (fun _ => ?_) (fun _ => ?_)
  | refine TotP.bind (by first | exact h1 | exact h2 _ _ | exact h3 | exact h4 | exact h5 | exact Qiw h _) (fun _ _ => ?_)
theorem Qvm (v : Int) : TotP (fun N => Q1d N v p) (fun r => r.1.length ≤ 10000000000) := by
 have ht := h.topic; have hp := h.payload;unfold Q1d;refine TotP.bind (Qvq h v) (fun a _ => ?_);refine TotP.cond (fun _ => .ret (by simp)) (fun _ => ?_);refine TotP.bind (Qo8 _ h.topic) (fun b hb => ?_);refine TotP.cond (fun _ => ?_) (fun _ => ?_)
 ·refine TotP.bind (Jd _ _) (fun c hc => ?_);refine TotP.chk (by rw [Lk]; omega) ?_;refine TotP.cond (fun _ => ?_) (fun _ => ?_)
  ·refine TotP.bind (Q2d _ _ h.props) (fun d hd => ?_);refine TotP.chk (by rw [Lk]; simp only [Li]; omega) ?_;exact TotP.chk (by rw [Lk]; simp only [Li]; omega) (.ret (by simp only [Li]; omega))
  exact TotP.chk (by rw [Lk]; simp only [Li]; omega) (.ret (by simp only [Li]; omega))
 refine TotP.cond (fun _ => ?_) (fun _ => ?_)
 ·refine TotP.bind (Q2d _ _ h.props) (fun d hd => ?_);refine TotP.chk (by rw [Lk]; omega) ?_;exact TotP.chk (by rw [Lk]; simp only [Li]; omega) (.ret (by simp only [Li]; omega))
 exact TotP.chk (by rw [Lk]; omega) (.ret (by simp only [Li]; omega))
end
end
end Go.Av
namespace Go.Av
noncomputable section
theorem Qyn : ∀ l : List (List UInt8), (l.intersperse []).flatten = l.flatten
 | [] => rfl
 | [_] => rfl
 | x :: y :: zs => by
  rw [List.intersperse_cons_cons];show x ++ ([] ++ ((y :: zs).intersperse []).flatten) = x ++ (y :: zs).flatten;rw [Qyn (y :: zs)]; rfl
theorem Z45 (l : List (List UInt8)) : Go.Lib.join l [] = l.flatten := Qyn l
theorem Q3t (K : Nat) (l : List (List UInt8)) (h1 : l.length ≤ 10) (hK : K ≤ 100000000000) (h2 : l.flatten.length ≤ K) : TotP (fun N => Xh N l) (fun r => r.length ≤ K) := by
 show TotP (fun N => Option.bind (cond _ (some _) none) _) _;rw [Z45]
 have : (Nat.ble l.length 140737488355328 && Nat.ble l.flatten.length 140737488355328) = true := by
  rw [La, Lk, Lk]; omega
 rw [this];exact .ret h2
theorem Q32 (s : List UInt8) : TotP (fun N => Xd N s) (fun r => r.length ≤ 65551) := TotP.bind (Qdj s) (fun _ h => .ret h)
theorem Qkr (v k : Int) (l : List Ql) (h : OkP l) : TotP (fun N => Gf N v k l) (fun r => r.length ≤ 9000000000) := by
 unfold Gf;exact TotP.cond (fun _ => .ret (by simp)) (fun _ => TotP.bind (Q2d k l h) (fun _ h => .ret h))
theorem Qs4 (p : Qa) : Any (fun N => Q0s N p) := by
 unfold Q0s;refine TotP.cond (fun _ => .ret trivial) (fun _ => ?_);refine Q8b (L := fun N n (q : Int × Int) => Yb N p n q.1 q.2) (Q := fun _ => True) (fun q => ∃ i : Nat, q.2 = (i : Int) ∧ i ≤ 5) (fun q => 5 - q.2.toNat) ?_ ((Q27 .i64 (Gi .i64 p.Will.QoS 3) 3), 0) ⟨0, rfl, by omega⟩
 rintro ⟨o, s⟩ ⟨i, hs, hi⟩
 simp only at hs
 subst hs;show Stp _ _ _ (fun N n => cond (Q3 .lss (i : Int) 5) _ _);rw [Qm];refine Stp.cond (fun h => ?_) (fun _ => Stp.ret trivial);have h := of_decide_eq_true h
 have e1 : IntKind.wrap .i64 ((i : Int) + 1) = ((i + 1 : Nat) : Int) := by rw [w64 _ (by omega)]; omega
 rw [e1]
 have g : ∀ o' : Int, Stp (fun N n (q : Int × Int) => Yb N p n q.1 q.2) (fun s' => (∃ i : Nat, s'.2 = (i : Int) ∧ i ≤ 5) ∧ 5 - s'.2.toNat < 5 - (i : Int).toNat) (fun _ => True) (fun N n => Yb N p n o' ((i + 1 : Nat) : Int)) := fun o' =>
  Stp.go (L := fun N n (q : Int × Int) => Yb N p n q.1 q.2) (o', ((i + 1 : Nat) : Int)) ⟨⟨i + 1, rfl, by omega⟩, by simp only [Lt]; omega⟩
 refine Stp.idx (Qw (by show i < 5; omega)) ?_;refine Stp.cond (fun _ => ?_) (fun _ => ?_)
 ·exact g _
 exact g _
section
variable {p : Qa} (h : Qvb p)
include h
theorem Qw6 (v : Int) : Any (fun N => Q08 N v p) := by
 have hm := ml2;have ht := h.wtopic
 have h1 : Any (fun N => Q0m N v) := by
  unfold Q0m
  repeat' first
   | exact TotP.ret trivial
   | refine TotP.cond (fun _ => ?_) (fun _ => ?_)
 have h2 : Any (fun N => Q1l N p.Kind) := by
  unfold Q1l
  repeat' first
   | exact TotP.ret trivial
   | refine TotP.cond (fun _ => ?_) (fun _ => ?_)
 have h3 : Any (fun N => Gz N p) := by
  unfold Gz
  repeat' first
   | exact TotP.ret trivial
   | refine TotP.cond (fun _ => ?_) (fun _ => ?_)
   | refine TotP.bind (by first | exact Q9i h _) (fun _ _ => ?_)
 have h4 : Any (fun N => Q0e N p.Code) := by
  unfold Q0e
  repeat' first
   | exact TotP.ret trivial
   | refine TotP.cond (fun _ => ?_) (fun _ => ?_)
 have h5 : Any (fun N => Ge N v p) := by
  unfold Ge
  repeat' first
   | exact TotP.ret trivial
   | refine TotP.cond (fun _ => ?_) (fun _ => ?_)
   | refine TotP.bind (by first | exact Qif _ _ | exact h4) (fun _ _ => ?_)
 have hV : ∀ s, Any (fun N => Qz N s) := fun s => Q6d (Q6o s);have hN : Any (fun N => Z5 N p.Will.Topic) := Q6d (Q7j _ (by omega));unfold Q08
 repeat' first
  | exact TotP.ret trivial
  | refine TotP.cond (fun _ => ?_) (fun _ => ?_)
  | refine TotP.bind (by first | exact h1 | exact h2 | exact h3 | exact h5 | exact hV _ | exact hN | exact Q9f _ _ h.props | exact Q9f _ _ h.wprops) (fun _ _ => ?_)
theorem Qx6 (v : Int) : TotP (fun N => Q1q N v p) (fun r => r.1.length ≤ 30000000000) := by
 unfold Q1q;refine TotP.bind (Qw6 h v) (fun a _ => ?_);refine TotP.cond (fun _ => .ret (by simp)) (fun _ => ?_);refine TotP.bind (Qkr v p.Kind _ h.props) (fun t ht => ?_);refine TotP.cond (fun _ => ?_) (fun _ => ?_)
 ·refine TotP.cond (fun _ => ?_) (fun _ => ?_)
  ·refine TotP.bind (Jd _ _) (fun b hb => ?_);exact TotP.bind (Q3t 30000000000 _ (by simp) (by omega) (by simp only [Mi, Nc, Li, Lp, Lo]; omega)) (fun c hc => .ret hc)
  refine TotP.bind (Jd _ _) (fun b hb => ?_);exact TotP.bind (Q3t 30000000000 _ (by simp) (by omega) (by simp only [Mi, Nc, Li, Lp, Lo]; omega)) (fun c hc => .ret hc)
 refine TotP.bind (Jd _ _) (fun b hb => ?_);refine TotP.bind (Qs4 p) (fun f _ => ?_);refine TotP.bind (Jd _ _) (fun c hc => ?_);refine TotP.bind (Jd _ _) (fun d hd => ?_);refine TotP.bind (Q32 _) (fun e he => ?_);refine TotP.bind (Q3t 10000000000 _ (by simp) (by omega) (by simp only [Mi, Nc, Li, Lp, Lo]; omega)) (fun x hx => ?_);refine TotP.cond (fun _ => ?_) (fun _ => ?_)
 ·refine TotP.bind (Qkr v 16 _ h.wprops) (fun b2 hb2 => ?_);refine TotP.bind (Q32 _) (fun c2 hc2 => ?_);refine TotP.bind (Q32 _) (fun d2 hd2 => ?_);refine TotP.bind (Q3t 20000000000 _ (by simp) (by omega) (by simp only [Mi, Nc, Li, Lp, Lo]; omega)) (fun y hy => ?_);refine TotP.cond (fun _ => ?_) (fun _ => ?_)
  ·refine TotP.bind (Q32 _) (fun b3 hb3 => ?_);refine TotP.bind (Q3t 20100000000 _ (by simp) (by omega) (by simp only [Mi, Nc, Li, Lp, Lo]; omega)) (fun z hz => ?_);refine TotP.cond (fun _ => ?_) (fun _ => .ret (by dsimp only; omega));refine TotP.bind (Q32 _) (fun b4 hb4 => ?_);exact TotP.bind (Q3t 30000000000 _ (by simp) (by omega) (by simp only [Mi, Nc, Li, Lp, Lo]; omega)) (fun c hc => .ret hc)
  refine TotP.cond (fun _ => ?_) (fun _ => .ret (by dsimp only; omega));refine TotP.bind (Q32 _) (fun b4 hb4 => ?_);exact TotP.bind (Q3t 30000000000 _ (by simp) (by omega) (by simp only [Mi, Nc, Li, Lp, Lo]; omega)) (fun c hc => .ret hc)
 refine TotP.cond (fun _ => ?_) (fun _ => ?_)
 ·refine TotP.bind (Q32 _) (fun b3 hb3 => ?_);refine TotP.bind (Q3t 20100000000 _ (by simp) (by omega) (by simp only [Mi, Nc, Li, Lp, Lo]; omega)) (fun z hz => ?_);refine TotP.cond (fun _ => ?_) (fun _ => .ret (by dsimp only; omega));refine TotP.bind (Q32 _) (fun b4 hb4 => ?_);exact TotP.bind (Q3t 30000000000 _ (by simp) (by omega) (by simp only [Mi, Nc, Li, Lp, Lo]; omega)) (fun c hc => .ret hc)
 refine TotP.cond (fun _ => ?_) (fun _ => .ret (by dsimp only; omega));refine TotP.bind (Q32 _) (fun b4 hb4 => ?_);exact TotP.bind (Q3t 30000000000 _ (by simp) (by omega) (by simp only [Mi, Nc, Li, Lp, Lo]; omega)) (fun c hc => .ret hc)
end
end
end Go.Av
namespace Go.Av
noncomputable section
section
variable {p : Qa} (h : Qvb p)
include h
theorem Qwi (v : Int) : Any (fun N => J5 N v p) := by
 have h1 : Any (fun N => Vb N p.Kind) := by
  unfold Vb
  repeat' first
   | exact TotP.ret trivial
   | refine TotP.cond (fun _ => ?_) (fun _ => ?_)
 have h2 : Any (fun N => Vv N v p.Kind) := by
  unfold Vv
  repeat' first
   | exact TotP.ret trivial
   | refine TotP.cond (fun _ => ?_) (fun _ => ?_)
 unfold J5
 repeat' first
  | exact TotP.ret trivial
  | refine TotP.cond (fun _ => ?_) (fun _ => ?_)
  | refine TotP.bind (by first | exact h1 | exact h2 | exact Q9i h _) (fun _ _ => ?_)
end
theorem Qxe (v k : Int) (f : Qn) (hf : f.Topic.length ≤ 2000) : Any (fun N => Um N v k f) := by
 have h1 : ∀ n, Any (fun N => V9 N n) := fun n => by
  unfold V9
  repeat' first
   | exact TotP.ret trivial
   | refine TotP.cond (fun _ => ?_) (fun _ => ?_)
 unfold Um
 repeat' first
  | exact TotP.ret trivial
  | refine TotP.cond (fun _ => ?_) (fun _ => ?_)
  | refine TotP.bind (by first | exact h1 _ | exact Qrd _ (by omega)) (fun _ _ => ?_)
theorem Qwm (v k c : Int) : Any (fun N => Uj N v k c) := by
 have h1 : Any (fun N => Q1h N c) := by
  unfold Q1h
  repeat' first
   | exact TotP.ret trivial
   | refine TotP.cond (fun _ => ?_) (fun _ => ?_)
 unfold Uj
 repeat' first
  | exact TotP.ret trivial
  | refine TotP.cond (fun _ => ?_) (fun _ => ?_)
  | refine TotP.bind (by first | exact h1 | exact Qif _ _) (fun _ _ => ?_)
section
variable {p : Qa} (h : Qvb p)
include h
theorem Qvi (v : Int) : Any (fun N => Jp N v p) := by
 have h1 : Any (fun N => Jk N v p.Kind) := by
  unfold Jk
  repeat' first
   | exact TotP.ret trivial
   | refine TotP.cond (fun _ => ?_) (fun _ => ?_)
 have h2 : Any (fun N => Yo N v p N 0) := by
  have hl := h.codes;refine Q3y (L := fun N n i => Yo N v p n i) p.Codes.length (fun _ => True) (fun i hi _ => ?_) (fun _ => ?_) trivial
  ·show Stp _ _ _ (fun N n => cond (Q3 .lss (i : Int) ((Q8 (cI .i64) p.Codes).length : Int)) _ _);refine Stp.cond (fun _ => ?_) (fun _ => Stp.ret trivial);refine Stp.idx (Qw hi) ?_;refine Stp.bind (Qwm _ _ _) (fun _ _ => ?_);refine Stp.cond (fun _ => Stp.ret trivial) (fun _ => ?_);rw [w64 _ (by omega)];exact Stp.go (L := fun N n i => Yo N v p n i) _ ⟨by omega, trivial⟩
  show Stp _ _ _ (fun N n => cond (Q3 .lss (p.Codes.length : Int) ((Q8 (cI .i64) p.Codes).length : Int)) _ _);rw [Q5, Qm, decide_eq_false (by omega)];exact Stp.ret trivial
 have h3 : Any (fun N => Ym N v p N 0) := by
  have hl := h.filters.1;refine Q3y (L := fun N n i => Ym N v p n i) p.Filters.length (fun _ => True) (fun i hi _ => ?_) (fun _ => ?_) trivial
  ·show Stp _ _ _ (fun N n => cond (Q3 .lss (i : Int) ((Q8 Qn.cells p.Filters).length : Int)) _ _);refine Stp.cond (fun _ => ?_) (fun _ => Stp.fin h2);refine Stp.idx (Qw hi) ?_;have hf := h.filters.2 _ (Mf hi);refine Stp.bind (Qd2 _ (by omega)) (fun _ _ => ?_);refine Stp.cond (fun _ => Stp.ret trivial) (fun _ => ?_);refine Stp.bind (Qxe _ _ _ hf) (fun _ _ => ?_);refine Stp.cond (fun _ => Stp.ret trivial) (fun _ => ?_);rw [w64 _ (by omega)];exact Stp.go (L := fun N n i => Ym N v p n i) _ ⟨by omega, trivial⟩
  show Stp _ _ _ (fun N n => cond (Q3 .lss (p.Filters.length : Int) ((Q8 Qn.cells p.Filters).length : Int)) _ _);rw [Q5, Qm, decide_eq_false (by omega)];exact Stp.fin h2
 unfold Jp
 repeat' first
  | exact h3
  | exact TotP.ret trivial
  | refine TotP.cond (fun _ => ?_) (fun _ => ?_)
  | refine TotP.bind (by first | exact h1 | exact Qwi h v | exact Qiw h _ | exact h3) (fun _ _ => ?_)
theorem Qsw (l : List Int) (hl : l.length ≤ 21000000000) : Any (fun N => X7 N p N 0 l) := by
 have hc := h.codes;refine Q8b (L := fun N n (q : Int × List Int) => X7 N p n q.1 q.2) (Q := fun _ => True) (fun q => ∃ i : Nat, q.1 = (i : Int) ∧ i ≤ p.Codes.length ∧ q.2.length ≤ 21000000000 + i) (fun q => p.Codes.length - q.1.toNat) ?_ (0, l) ⟨0, rfl, by omega, hl⟩
 rintro ⟨s, l⟩ ⟨i, hs, hi, hl⟩
 simp only at hs hl
 subst hs;show Stp _ _ _ (fun N n => cond (Q3 .lss (i : Int) ((Q8 (cI .i64) p.Codes).length : Int)) _ _);rw [Q5, Qm];dsimp only;refine Stp.cond (fun h => ?_) (fun _ => Stp.ret trivial);have h := of_decide_eq_true h;refine Stp.idx (Qw (show i < p.Codes.length by omega)) ?_;refine Stp.chk (by rw [Lk]; omega) ?_
 have e1 : IntKind.wrap .i64 ((i : Int) + 1) = ((i + 1 : Nat) : Int) := by rw [w64 _ (by omega)]; omega
 rw [e1];exact Stp.go (L := fun N n (q : Int × List Int) => X7 N p n q.1 q.2) (((i + 1 : Nat) : Int), l ++ [_]) ⟨⟨i + 1, rfl, by omega, by simp only [Li, Lp, Lo]; omega⟩, by simp only [Lt]; omega⟩
theorem Qfd (l : List Int) (hl : l.length ≤ 20000000000) : Any (fun N => Zb N p N 0 l) := by
 have hc := h.filters.1;refine Q8b (L := fun N n (q : Int × List Int) => Zb N p n q.1 q.2) (Q := fun _ => True) (fun q => ∃ i : Nat, q.1 = (i : Int) ∧ i ≤ p.Filters.length ∧ q.2.length ≤ 20000000000 + i * 80001) (fun q => p.Filters.length - q.1.toNat) ?_ (0, l) ⟨0, rfl, by omega, by simpa using hl⟩
 rintro ⟨s, l⟩ ⟨i, hs, hi, hl⟩
 simp only at hs hl
 subst hs;show Stp _ _ _ (fun N n => cond (Q3 .lss (i : Int) ((Q8 Qn.cells p.Filters).length : Int)) _ _);rw [Q5, Qm];dsimp only;refine Stp.cond (fun hx => ?_) (fun _ => Stp.fin (Qsw h l (by omega)));have hx := of_decide_eq_true hx
 have hi : i < p.Filters.length := by omega
 refine Stp.idx (Qw hi) ?_;have hf := h.filters.2 _ (Mf hi);generalize p.Filters[i] = y at hf
 have e1 : IntKind.wrap .i64 ((i : Int) + 1) = ((i + 1 : Nat) : Int) := by rw [w64 _ (by omega)]; omega
 have ho : Any (fun N => Va N y) := by
  unfold Va
  repeat' first
   | exact TotP.ret trivial
   | refine TotP.cond (fun _ => ?_) (fun _ => ?_)
 have go : ∀ (o' : List Int), o'.length ≤ 20000000000 + (i + 1) * 80001 → Stp (fun N n (q : Int × List Int) => Zb N p n q.1 q.2) (fun s' => (∃ i : Nat, s'.1 = (i : Int) ∧ i ≤ p.Filters.length ∧ s'.2.length ≤ 20000000000 + i * 80001) ∧ p.Filters.length - s'.1.toNat < p.Filters.length - (i : Int).toNat) (fun _ => True) (fun N n => Zb N p n (IntKind.wrap .i64 ((i : Int) + 1)) o') := by
  intro o' h2;rw [e1];exact Stp.go (L := fun N n (q : Int × List Int) => Zb N p n q.1 q.2) (((i + 1 : Nat) : Int), o') ⟨⟨i + 1, rfl, by omega, h2⟩, by simp only [Lt]; omega⟩
 refine Stp.bind (Qo8 _ hf) (fun t ht => ?_);refine Stp.cond (fun _ => ?_) (fun _ => ?_)
 ·refine Stp.cond (fun _ => ?_) (fun _ => go l (Mv hl (Nat.add_le_add_left (Nu _ (Nat.le_succ i)) _)));refine Stp.bind ho (fun o _ => ?_);exact Stp.chk (by rw [Lk]; omega) (go _ (by simp only [Li, Lp, Lo]; omega))
 refine Stp.chk (by rw [Lk]; omega) ?_;refine Stp.cond (fun _ => ?_) (fun _ => go _ (by simp only [Li, Ls]; omega));refine Stp.bind ho (fun o _ => ?_);exact Stp.chk (by rw [Lk]; omega) (go _ (by simp only [Li, Lp, Lo, Ls]; omega))
theorem Qvu (v : Int) : Any (fun N => Ga N v p) := by
 unfold Ga;refine TotP.bind (Qvi h v) (fun a _ => ?_);refine TotP.cond (fun _ => .ret trivial) (fun _ => ?_);refine TotP.bind (Jd _ _) (fun b hb => ?_);refine TotP.cond (fun _ => ?_) (fun _ => Qfd h _ (by rw [Ls]; omega));refine TotP.bind (Q2d _ _ h.props) (fun d hd => ?_);refine TotP.cond (fun _ => Qfd h _ (by rw [Ls]; omega)) (fun _ => ?_);exact TotP.chk (by rw [Lk]; omega) (Qfd h _ (by rw [Li, Ls, Ls]; omega))
theorem Qvs (v : Int) : Any (fun N => Ua N v p) := by
 have b1 : Any (fun N => Wr N ⟨v, p⟩) := by
  unfold Wr;exact TotP.bind (Qx6 h v) (fun _ _ => .ret trivial)
 have b2 : Any (fun N => U6 N ⟨v, p⟩) := by
  unfold U6;exact TotP.bind (Qvm h v) (fun _ _ => .ret trivial)
 have b3 : Any (fun N => Wu N ⟨v, p⟩) := by
  unfold Wu;exact TotP.bind (Qww h v) (fun _ _ => .ret trivial)
 have b4 : Any (fun N => Y6 N ⟨v, p⟩) := by
  unfold Y6;exact TotP.bind (Qvu h v) (fun _ _ => .ret trivial)
 have b5 : Any (fun N => Yn N ⟨v, p⟩) := by
  unfold Yn;exact TotP.bind (Qwf h v) (fun _ _ => .ret trivial)
 have j0 : ∀ b, Any (fun N => Uc N v p b) := fun b => by
  unfold Uc
  repeat' first
   | exact TotP.ret trivial
   | refine TotP.cond (fun _ => ?_) (fun _ => ?_)
   | refine TotP.bind (by first | exact b1 | exact b2 | exact b3 | exact b4 | exact b5) (fun _ _ => ?_)
 unfold Ua Q5p;refine TotP.bind (V := fun _ => True) (TotP.cond (fun _ => j0 _) (fun _ => j0 _)) (fun _ _ => .ret trivial)
end
theorem Qsk {p : Qa} (v : Int) (hk : p.Kind = 0) : TotP (fun N => Ua N v p) (fun r => r ≠ 0) := by
 unfold Ua Q5p
 have j0 : ∀ b, TotP (fun N => Uc N v p b) (fun r => r.2 ≠ 0) := fun b => by
  unfold Uc;rw [hk];exact TotP.cond (fun _ => .ret (by decide)) (fun _ => .ret (by decide))
 exact TotP.bind (TotP.cond (fun _ => j0 _) (fun _ => j0 _)) (fun _ h => .ret h)
end
end Go.Av
namespace Go.Av
noncomputable section
theorem Ql2 (f : Xx) : Any (fun N => Q0y N f) := by
 unfold Q0y
 repeat' first
  | exact TotP.ret trivial
  | refine TotP.cond (fun _ => ?_) (fun _ => ?_)
theorem Qx8 (k : Int) : Any (fun N => Q2h N k) := by
 unfold Q2h
 repeat' first
  | exact TotP.ret trivial
  | refine TotP.cond (fun _ => ?_) (fun _ => ?_)
theorem Qwx (k : Int) (f : Xx) : Any (fun N => Q6a N k f) := by
 have j6 : ∀ c1 c2 c3 c4 c5 c6, Any (fun N => Gu N c1 c2 c3 c4 c5 c6) := fun c1 c2 c3 c4 c5 c6 => TotP.ret trivial;have j5 : ∀ v c1 c2 c3 c4 c5, Any (fun N => Q09 N f v c1 c2 c3 c4 c5) := fun v c1 c2 c3 c4 c5 => TotP.cond (fun _ => j6 _ _ _ _ _ _) (fun _ => j6 _ _ _ _ _ _);have j4 : ∀ v c1 c2 c3 c4, Any (fun N => Q0g N f v c1 c2 c3 c4) := fun v c1 c2 c3 c4 => TotP.cond (fun _ => j5 _ _ _ _ _ _) (fun _ => j5 _ _ _ _ _ _);have j3 : ∀ v c1 c2 c3, Any (fun N => Q0n N f v c1 c2 c3) := fun v c1 c2 c3 => TotP.cond (fun _ => j4 _ _ _ _ _) (fun _ => j4 _ _ _ _ _);have j2 : ∀ v c1 c2, Any (fun N => Q01 N f v c1 c2) := fun v c1 c2 => TotP.cond (fun _ => j3 _ _ _ _) (fun _ => j3 _ _ _ _);have j1 : ∀ v c1, Any (fun N => Q0d N f v c1) := fun v c1 => TotP.cond (fun _ => j2 _ _ _) (fun _ => j2 _ _ _);have j0 : ∀ c1, Any (fun N => Q0h N k f c1) := fun c1 => TotP.cond (fun _ => .ret trivial) (fun _ => TotP.bind (Qx8 k) (fun v _ => TotP.cond (fun _ => j1 _ _) (fun _ => j1 _ _)));exact TotP.bind (Ql2 f) (fun v _ => TotP.cond (fun _ => .ret trivial) (fun _ => TotP.cond (fun _ => j0 _) (fun _ => j0 _)))
structure Cd (B : Nat) (c : Q4) : Prop where
 d : c.do' = 1 ∨ c.do' = 2
 nm : c.m.Name.length ≤ 70000
 da : c.m.Data.length ≤ 70000
 ou : c.out.length ≤ B
theorem Cd.mono {B C : Nat} {c : Q4} (h : Cd B c) (hB : B ≤ C) : Cd C c := ⟨h.d, h.nm, h.da, Mv h.ou hB⟩
theorem Cd.zero {B : Nat} {c : Q4} (h : Cd B c) : Q3 .eql c.do' 0 = false := by
 have := h.d;rw [Q1b]; exact decide_eq_false (by omega)
theorem Q8h {v : List UInt8} {n : Nat} (h : v.length = n + 1) : (!(Nat.beq v.length 0)) = true := by rw [h]; rfl
section
variable {B : Nat} {c : Q4} (h : Cd B c) (hB : B ≤ 10000000)
include h hB
theorem Qqy : TotP (fun N => Yf N c) (fun r => Cd (B + 70000) r.2) := by
 have hz := h.zero; have hd := h.d; have hn := h.nm; have ha := h.da; have ho := h.ou;unfold Yf;rw [hz]
 repeat' first
  | exact TotP.ret ⟨hd, by (first | (simp only [Lo]; omega) | (dsimp only; omega) | omega), by (first | (simp only [Lo]; omega) | (dsimp only; omega) | omega), by (first | (simp only [Li, Ls]; omega) | (dsimp only; omega) | omega)⟩
  | refine TotP.cond (fun e => absurd e Lz) (fun _ => ?_)
  | refine TotP.bind (Q5y _ 1 (by omega) (by omega)) (fun v hv => TotP.chk (Q8h hv) (TotP.chk (by rw [Lk]; omega) ?_))
  | refine TotP.chk (by rw [Lk]; omega) ?_
  | refine TotP.cond (fun _ => ?_) (fun _ => ?_)
theorem Qtw : TotP (fun N => Yx N c) (fun r => Cd (B + 70000) r.2) := by
 have hz := h.zero; have hd := h.d; have hn := h.nm; have ha := h.da; have ho := h.ou;unfold Yx;rw [hz]
 repeat' first
  | exact TotP.ret ⟨hd, by (first | (simp only [Lo]; omega) | (dsimp only; omega) | omega), by (first | (simp only [Lo]; omega) | (dsimp only; omega) | omega), by (first | (simp only [Li, Ls]; omega) | (dsimp only; omega) | omega)⟩
  | refine TotP.cond (fun e => absurd e Lz) (fun _ => ?_)
  | refine TotP.bind (Q5y _ 2 (by omega) (by omega)) (fun v hv => TotP.chk (Q8h hv) (TotP.chk (by rw [Lk]; omega) ?_))
  | refine TotP.chk (by rw [Lk]; omega) ?_
  | refine TotP.cond (fun _ => ?_) (fun _ => ?_)
theorem Qu7 : TotP (fun N => Xl N c) (fun r => Cd (B + 70000) r.2) := by
 have hz := h.zero; have hd := h.d; have hn := h.nm; have ha := h.da; have ho := h.ou;unfold Xl;rw [hz]
 repeat' first
  | exact TotP.ret ⟨hd, by (first | (simp only [Lo]; omega) | (dsimp only; omega) | omega), by (first | (simp only [Lo]; omega) | (dsimp only; omega) | omega), by (first | (simp only [Li, Ls]; omega) | (dsimp only; omega) | omega)⟩
  | refine TotP.cond (fun e => absurd e Lz) (fun _ => ?_)
  | refine TotP.bind (Q5y _ 1 (by omega) (by omega)) (fun v hv => TotP.chk (Q8h hv) (TotP.chk (by rw [Lk]; omega) ?_))
  | refine TotP.chk (by rw [Lk]; omega) ?_
  | refine TotP.cond (fun _ => ?_) (fun _ => ?_)
theorem Qn8 : TotP (fun N => Yp N c) (fun r => Cd (B + 70000) r.2) := by
 have hz := h.zero; have hd := h.d; have hn := h.nm; have ha := h.da; have ho := h.ou;unfold Yp;rw [hz]
 repeat' first
  | exact TotP.ret ⟨hd, by (first | (simp only [Lo]; omega) | (dsimp only; omega) | omega), by (first | (simp only [Lo]; omega) | (dsimp only; omega) | omega), by (first | (simp only [Li, Ls]; omega) | (dsimp only; omega) | omega)⟩
  | refine TotP.cond (fun e => absurd e Lz) (fun _ => ?_)
  | refine TotP.bind (Q5y _ 1 (by omega) (by omega)) (fun v hv => TotP.chk (Q8h hv) (TotP.chk (by rw [Lk]; omega) ?_))
  | refine TotP.chk (by rw [Lk]; omega) ?_
  | refine TotP.cond (fun _ => ?_) (fun _ => ?_)
theorem Z0n : TotP (fun N => Zo N c) (fun r => Cd (B + 70000) r.2) := by
 have hz := h.zero; have hd := h.d; have hn := h.nm; have ha := h.da; have ho := h.ou;unfold Zo;rw [hz]
 repeat' first
  | exact TotP.ret ⟨hd, by (first | (simp only [Lo]; omega) | (dsimp only; omega) | omega), by (first | (simp only [Lo]; omega) | (dsimp only; omega) | omega), by (first | (simp only [Li, Ls]; omega) | (dsimp only; omega) | omega)⟩
  | refine TotP.cond (fun e => absurd e Lz) (fun _ => ?_)
  | refine TotP.bind (Q5y _ 1 (by omega) (by omega)) (fun v hv => TotP.chk (Q8h hv) (TotP.chk (by rw [Lk]; omega) ?_))
  | refine TotP.chk (by rw [Lk]; omega) ?_
  | refine TotP.cond (fun _ => ?_) (fun _ => ?_)
theorem Z35 : TotP (fun N => Y8 N c) (fun r => Cd (B + 70000) r.2) := by
 have hz := h.zero; have hd := h.d; have hn := h.nm; have ha := h.da; have ho := h.ou;unfold Y8;rw [hz]
 repeat' first
  | exact TotP.ret ⟨hd, by (first | (simp only [Lo]; omega) | (dsimp only; omega) | omega), by (first | (simp only [Lo]; omega) | (dsimp only; omega) | omega), by (first | (simp only [Li, Ls]; omega) | (dsimp only; omega) | omega)⟩
  | refine TotP.cond (fun e => absurd e Lz) (fun _ => ?_)
  | refine TotP.bind (Q5y _ 2 (by omega) (by omega)) (fun v hv => TotP.chk (Q8h hv) (TotP.chk (by rw [Lk]; omega) ?_))
  | refine TotP.chk (by rw [Lk]; omega) ?_
  | refine TotP.cond (fun _ => ?_) (fun _ => ?_)
theorem Z2s : TotP (fun N => Qt N c) (fun r => Cd (B + 70000) r.2) := by
 have hz := h.zero; have hd := h.d; have hn := h.nm; have ha := h.da; have ho := h.ou;unfold Qt;rw [hz]
 repeat' first
  | exact TotP.ret ⟨hd, by (first | (simp only [Lo]; omega) | (dsimp only; omega) | omega), by (first | (simp only [Lo]; omega) | (dsimp only; omega) | omega), by (first | (simp only [Li, Ls]; omega) | (dsimp only; omega) | omega)⟩
  | refine TotP.cond (fun e => absurd e Lz) (fun _ => ?_)
  | refine TotP.bind (Q5y _ 2 (by omega) (by omega)) (fun v hv => TotP.chk (Q8h hv) (TotP.chk (by rw [Lk]; omega) ?_))
  | refine TotP.chk (by rw [Lk]; omega) ?_
  | refine TotP.cond (fun _ => ?_) (fun _ => ?_)
theorem Qp0 : TotP (fun N => Z7 N c) (fun r => Cd (B + 70000) r.2) := by
 have hz := h.zero; have hd := h.d; have hn := h.nm; have ha := h.da; have ho := h.ou;unfold Z7;refine TotP.bind (Ql2 _) (fun w _ => ?_);rw [hz]
 repeat' first
  | exact TotP.ret ⟨hd, by (first | (simp only [Lo]; omega) | (dsimp only; omega) | omega), by (first | (simp only [Lo]; omega) | (dsimp only; omega) | omega), by (first | (simp only [Li, Ls]; omega) | (dsimp only; omega) | omega)⟩
  | refine TotP.cond (fun e => absurd e Lz) (fun _ => ?_)
  | refine TotP.bind (Q5y _ 1 (by omega) (by omega)) (fun v hv => TotP.chk (Q8h hv) (TotP.chk (by rw [Lk]; omega) ?_))
  | refine TotP.chk (by rw [Lk]; omega) ?_
  | refine TotP.cond (fun _ => ?_) (fun _ => ?_)
theorem Qmq : TotP (fun N => Z2 N c) (fun r => Cd (B + 70000) r.2) := by
 have hz := h.zero; have hd := h.d; have hn := h.nm; have ha := h.da; have ho := h.ou;unfold Z2;rw [hz];refine TotP.cond (fun e => absurd e Lz) (fun _ => ?_)
 refine TotP.cond (fun _ => ?_) (fun _ => .ret ⟨hd, by (first | (simp only [Lo]; omega) | (dsimp only; omega) | omega), by (first | (simp only [Lo]; omega) | (dsimp only; omega) | omega), by (first | (simp only [Li, Ls]; omega) | (dsimp only; omega) | omega)⟩)
 refine TotP.cond (fun _ => .ret ⟨hd, by (first | (simp only [Lo]; omega) | (dsimp only; omega) | omega), by (first | (simp only [Lo]; omega) | (dsimp only; omega) | omega), by (first | (simp only [Li, Ls]; omega) | (dsimp only; omega) | omega)⟩) (fun _ => ?_)
 exact TotP.chk (by rw [Lk]; omega) (.ret ⟨hd, by (first | (simp only [Lo]; omega) | (dsimp only; omega) | omega), by (first | (simp only [Lo]; omega) | (dsimp only; omega) | omega), by (first | (simp only [Li, Ls]; omega) | (dsimp only; omega) | omega)⟩)
theorem Qzh : TotP (fun N => Yv N c) (fun r => Cd (B + 70000) r.2) := by
 have hz := h.zero; have hd := h.d; have hn := h.nm; have ha := h.da; have ho := h.ou;unfold Yv;rw [hz];refine TotP.cond (fun e => absurd e Lz) (fun _ => ?_)
 refine TotP.cond (fun _ => ?_) (fun _ => .ret ⟨hd, by (first | (simp only [Lo]; omega) | (dsimp only; omega) | omega), by (first | (simp only [Lo]; omega) | (dsimp only; omega) | omega), by (first | (simp only [Li, Ls]; omega) | (dsimp only; omega) | omega)⟩)
 refine TotP.cond (fun _ => .ret ⟨hd, by (first | (simp only [Lo]; omega) | (dsimp only; omega) | omega), by (first | (simp only [Lo]; omega) | (dsimp only; omega) | omega), by (first | (simp only [Li, Ls]; omega) | (dsimp only; omega) | omega)⟩) (fun _ => ?_)
 exact TotP.chk (by rw [Lk]; omega) (.ret ⟨hd, by (first | (simp only [Lo]; omega) | (dsimp only; omega) | omega), by (first | (simp only [Lo]; omega) | (dsimp only; omega) | omega), by (first | (simp only [Li, Ls]; omega) | (dsimp only; omega) | omega)⟩)
end
section
variable {B : Nat} {c : Q4} (h : Cd B c) (hB : B ≤ 1000000)
include h hB
attribute [local irreducible] Yf Yx Xl Yp Zo Y8 Qt Z7 Z2 Yv
theorem Z0a : TotP (fun N => Wl N c) (fun r => Cd (B + 140000) r.2) := by
 have hz := h.zero;unfold Wl;rw [hz]
 repeat' first
  | exact TotP.ret (Cd.mono (by assumption) (by omega))
  | refine TotP.cond (fun e => absurd e Lz) (fun _ => ?_)
  | refine TotP.cond (fun _ => ?_) (fun _ => ?_)
  | refine TotP.bind (Qp0 (by assumption) (by omega)) (fun v hv => ?_)
  | refine TotP.bind (Qmq (by assumption) (by omega)) (fun v hv => ?_)
theorem Qy0 : TotP (fun N => W0 N c) (fun r => Cd (B + 140000) r.2) := by
 unfold W0
 repeat' first
  | exact TotP.ret (Cd.mono (by assumption) (by omega))
  | refine TotP.cond (fun _ => ?_) (fun _ => ?_)
  | refine TotP.bind (Z35 (by assumption) (by omega)) (fun v hv => ?_)
  | refine TotP.bind (Qmq (by assumption) (by omega)) (fun v hv => ?_)
theorem Qnb : TotP (fun N => Xu N c) (fun r => Cd (B + 140000) r.2) := by
 have hz := h.zero;unfold Xu;rw [hz];refine TotP.cond (fun e => absurd e Lz) (fun _ => ?_);refine TotP.cond (fun _ => ?_) (fun _ => ?_)
 ·refine TotP.bind (Qtw h (by omega)) (fun v hv => ?_);refine TotP.cond (fun _ => .ret ?_) (fun _ => .ret (hv.mono (by omega)));exact ⟨hv.d, hv.nm, hv.da, Mv hv.ou (by omega)⟩
 refine TotP.cond (fun _ => .ret ?_) (fun _ => .ret (h.mono (by omega)));exact ⟨h.d, h.nm, h.da, Mv h.ou (by omega)⟩
end
section
variable {B : Nat} {c : Q4} (h : Cd B c) (hB : B ≤ 1000)
include h hB
attribute [local irreducible] Yf Yx Xl Yp Zo Y8 Qt Z7 Z2 Yv Wl W0 Xu
theorem Qi5 : TotP (fun N => Yc N c) (fun r => Cd (B + 700000) r.2) := by
 have l0 : TotP (fun N => W7 N c N) (fun r => Cd (B + 700000) r.2) := ⟨((), c), h.mono (by omega), 1, fun N hN => by obtain ⟨M, rfl⟩ : ∃ M, N = M + 1 := ⟨N - 1, by omega⟩; rfl⟩;unfold Yc
 repeat' first
  | exact TotP.ret (Cd.mono (by assumption) (by omega))
  | exact l0
  | refine TotP.cond (fun _ => ?_) (fun _ => ?_)
  | refine TotP.bind (Qqy (by assumption) (by omega)) (fun v hv => ?_)
  | refine TotP.bind (Qtw (by assumption) (by omega)) (fun v hv => ?_)
  | refine TotP.bind (Qu7 (by assumption) (by omega)) (fun v hv => ?_)
  | refine TotP.bind (Qn8 (by assumption) (by omega)) (fun v hv => ?_)
  | refine TotP.bind (Z0n (by assumption) (by omega)) (fun v hv => ?_)
  | refine TotP.bind (Z35 (by assumption) (by omega)) (fun v hv => ?_)
  | refine TotP.bind (Z2s (by assumption) (by omega)) (fun v hv => ?_)
  | refine TotP.bind (Qp0 (by assumption) (by omega)) (fun v hv => ?_)
  | refine TotP.bind (Qmq (by assumption) (by omega)) (fun v hv => ?_)
  | refine TotP.bind (Qzh (by assumption) (by omega)) (fun v hv => ?_)
  | refine TotP.bind (Z0a (by assumption) (by omega)) (fun v hv => ?_)
  | refine TotP.bind (Qy0 (by assumption) (by omega)) (fun v hv => ?_)
  | refine TotP.bind (Qnb (by assumption) (by omega)) (fun v hv => ?_)
end
structure OkM (m : Q14) : Prop where
 nm : m.Name.length ≤ 70000
 da : m.Data.length ≤ 70000
section
variable {m : Q14} (h : OkM m)
include h
theorem cd0 (d : Int) (hd : d = 1 ∨ d = 2) : Cd 0 ⟨d, m, [], false⟩ := ⟨hd, h.nm, h.da, Ln 0⟩
theorem Qpk : TotP (fun N => Jv N m) (fun l => l.length ≤ 700000) := by
 unfold Jv;exact TotP.bind (Qi5 (cd0 h 1 (.inl rfl)) (by omega)) (fun v hv => .ret (by have := hv.ou; rw [Ls]; omega))
end
theorem Qki (k r : Int) : TotP (fun N => Vi N k r) (fun x => x.1.length ≤ 100) := by
 have h1 : Any (fun N => Jg N k) := by
  unfold Jg
  repeat' first
   | exact TotP.ret trivial
   | refine TotP.cond (fun _ => ?_) (fun _ => ?_)
 unfold Vi;refine TotP.bind h1 (fun _ _ => ?_)
 repeat' first
  | exact TotP.ret (by simp only [Lo, Li]; omega)
  | refine TotP.bind (Jd _ _) (fun v hv => ?_)
  | refine TotP.chk (by rw [Lk]; (first | omega | (simp only [Li]; omega))) ?_
  | refine TotP.cond (fun _ => ?_) (fun _ => ?_)
section
variable {m : Q14} (h : OkM m)
include h
theorem Qqg : Any (fun N => Q2o N m) := by
 have hm := ml7; have hn := h.nm
 have h1 : Any (fun N => Q0b N m.Type') := by
  unfold Q0b Jg;refine TotP.bind (V := fun _ => True) ?_ (fun _ _ => TotP.cond (fun _ => .ret trivial) (fun _ => .ret trivial))
  repeat' first
   | exact TotP.ret trivial
   | refine TotP.cond (fun _ => ?_) (fun _ => ?_)
 have h2 : Any (fun N => Q43 N m.Type') := by
  unfold Q43
  repeat' first
   | exact TotP.ret trivial
   | refine TotP.cond (fun _ => ?_) (fun _ => ?_)
 have h3 : Any (fun N => G7 N m) := by
  unfold G7
  repeat' first
   | exact TotP.ret trivial
   | refine TotP.cond (fun _ => ?_) (fun _ => ?_)
 have hN : ∀ s : List UInt8, s.length ≤ 70000 → Any (fun N => Z5 N s) := fun s hs => Q6d (Q7j _ (by omega));have hF : Any (fun N => Xy N m.Name) := Qd2 _ hn;have hV : ∀ s, Any (fun N => Qz N s) := fun s => Q6d (Q6o s)
 have h4 : ∀ i, Any (fun N => Jw N i) := fun i => by
  unfold Jw;refine TotP.cond (fun _ => .ret trivial) (fun _ => TotP.cond (fun _ => .ret trivial) (fun _ => ?_));refine TotP.bind (Jd _ _) (fun v hv => ?_);refine TotP.bind (hN v (by omega)) (fun _ _ => ?_);exact TotP.cond (fun _ => .ret trivial) (fun _ => .ret trivial)
 have h5 : Any (fun N => Us N m) := by
  unfold Us
  repeat' first
   | exact TotP.ret trivial
   | refine TotP.cond (fun _ => ?_) (fun _ => ?_)
   | refine TotP.bind (by first | exact h4 _) (fun _ _ => ?_)
 have h6 : Any (fun N => Q07 N m) := by
  unfold Q07
  repeat' first
   | exact TotP.ret trivial
   | refine TotP.cond (fun _ => ?_) (fun _ => ?_)
   | refine TotP.bind (by first | exact hN _ hn | exact hF | exact hV _) (fun _ _ => ?_)
 have h7 := (Qi5 (cd0 h 2 (.inr rfl)) (by omega)).any;have h8 := (Qpk h).any;have h9 : ∀ a b, Any (fun N => Vi N a b) := fun a b => (Qki a b).any;have h10 := Qwx m.Type' m.Flags;unfold Q2o
 repeat' first
  | exact TotP.ret trivial
  | refine TotP.cond (fun _ => ?_) (fun _ => ?_)
  | refine TotP.bind (by first | exact h1 | exact h10 | exact h2 | exact h7 | exact h3 | exact h5 | exact h6 | exact h8 | exact h9 _ _) (fun _ _ => ?_)
theorem Qd5 : TotP (fun N => Q0u N m) (fun r => r.1.length ≤ 800000) := by
 unfold Q0u;refine TotP.bind (Qqg h) (fun _ _ => TotP.cond (fun _ => .ret (by simp)) (fun _ => ?_));refine TotP.bind (Qpk h) (fun v hv => ?_);refine TotP.bind (Qki _ _) (fun w hw => TotP.cond (fun _ => .ret (by simp)) (fun _ => ?_));exact TotP.chk (by rw [Lk]; omega) (.ret (by simp only [Li]; omega))
end
structure Z51 (d : Wd) : Prop where
 hops : d.Hops.length ≤ 30
 node : ∀ x ∈ d.Hops, x.Node.length ≤ 300
 msg : OkM d.Msg
section
variable {d : Wd} (h : Z51 d) (l : Y5)
include h
theorem Qrg (v : List UInt8 × Int) (hv : v.1.length ≤ 800000) : Any (fun N => W8 N d l v N [] 0) := by
 have hc := h.hops;refine Q8b (L := fun N n (q : List UInt8 × Int) => W8 N d l v n q.1 q.2) (Q := fun _ => True) (fun q => ∃ i : Nat, q.2 = (i : Int) ∧ i ≤ d.Hops.length ∧ q.1.length ≤ i * 400) (fun q => d.Hops.length - q.2.toNat) ?_ ([], 0) ⟨0, rfl, by omega, by simp⟩
 rintro ⟨o, s⟩ ⟨i, hs, hi, hl⟩
 simp only at hs hl
 subst hs;show Stp _ _ _ (fun N n => cond (Q3 .lss (i : Int) ((Q8 Q0t.cells d.Hops).length : Int)) _ _);rw [Q5, Qm];dsimp only;refine Stp.cond (fun hx => ?_) (fun _ => Stp.cond (fun _ => Stp.ret trivial) (fun _ => Stp.chk (by rw [Lk]; omega) (Stp.ret trivial)));have hx := of_decide_eq_true hx
 have hi : i < d.Hops.length := by omega
 refine Stp.idx (Qw hi) ?_;have hf := h.node _ (Mf hi);generalize d.Hops[i] = y at hf
 have e1 : IntKind.wrap .i64 ((i : Int) + 1) = ((i + 1 : Nat) : Int) := by rw [w64 _ (by omega)]; omega
 refine Stp.bind (Qtz y hf) (fun w hw => ?_);refine Stp.chk (by rw [Lk]; omega) ?_;rw [e1];exact Stp.go (L := fun N n (q : List UInt8 × Int) => W8 N d l v n q.1 q.2) (o ++ w, ((i + 1 : Nat) : Int)) ⟨⟨i + 1, rfl, by omega, by simp only [Li]; omega⟩, by simp only [Lt]; omega⟩
theorem Qia (v : List UInt8 × Int) (hv : v.1.length ≤ 800000) : Any (fun N => Wa N d l v N [] 0) := by
 have hc := h.hops;refine Q8b (L := fun N n (q : List UInt8 × Int) => Wa N d l v n q.1 q.2) (Q := fun _ => True) (fun q => ∃ i : Nat, q.2 = (i : Int) ∧ i ≤ d.Hops.length ∧ q.1.length ≤ i * 400) (fun q => d.Hops.length - q.2.toNat) ?_ ([], 0) ⟨0, rfl, by omega, by simp⟩
 rintro ⟨o, s⟩ ⟨i, hs, hi, hl⟩
 simp only at hs hl
 subst hs;show Stp _ _ _ (fun N n => cond (Q3 .lss (i : Int) ((Q8 Q0t.cells d.Hops).length : Int)) _ _);rw [Q5, Qm];dsimp only;refine Stp.cond (fun hx => ?_) (fun _ => Stp.cond (fun _ => Stp.ret trivial) (fun _ => Stp.chk (by rw [Lk]; omega) (Stp.ret trivial)));have hx := of_decide_eq_true hx
 have hi : i < d.Hops.length := by omega
 refine Stp.idx (Qw hi) ?_;have hf := h.node _ (Mf hi);generalize d.Hops[i] = y at hf
 have e1 : IntKind.wrap .i64 ((i : Int) + 1) = ((i + 1 : Nat) : Int) := by rw [w64 _ (by omega)]; omega
 refine Stp.bind (Qtz y hf) (fun w hw => ?_);refine Stp.chk (by rw [Lk]; omega) ?_;rw [e1];exact Stp.go (L := fun N n (q : List UInt8 × Int) => Wa N d l v n q.1 q.2) (o ++ w, ((i + 1 : Nat) : Int)) ⟨⟨i + 1, rfl, by omega, by simp only [Li]; omega⟩, by simp only [Lt]; omega⟩
theorem Qlh : Any (fun N => Vk N d l) := by
 have hc := h.hops
 have h0 : Any (fun N => W9 N d l N 0) := by
  refine Q3y (L := fun N n i => W9 N d l n i) d.Hops.length (fun _ => True) (fun i hi _ => ?_) (fun _ => ?_) trivial
  ·show Stp _ _ _ (fun N n => cond (Q3 .lss (i : Int) ((Q8 Q0t.cells d.Hops).length : Int)) _ _);refine Stp.cond (fun _ => ?_) (fun _ => ?_)
   ·refine Stp.idx (Qw hi) ?_;refine Stp.bind (Qs7 _) (fun _ _ => ?_);refine Stp.cond (fun _ => ?_) (fun _ => ?_)
    ·refine Stp.cond (fun _ => Stp.ret trivial) (fun _ => ?_);refine Stp.fin (TotP.bind (Qd5 h.msg) (fun v hv => ?_));exact TotP.cond (fun _ => .ret trivial) (fun _ => Qrg h l v hv)
    rw [w64 _ (by omega)];exact Stp.go (L := fun N n i => W9 N d l n i) _ ⟨by omega, trivial⟩
   refine Stp.fin (TotP.bind (Qd5 h.msg) (fun v hv => ?_));exact TotP.cond (fun _ => .ret trivial) (fun _ => Qia h l v hv)
  show Stp _ _ _ (fun N n => cond (Q3 .lss (d.Hops.length : Int) ((Q8 Q0t.cells d.Hops).length : Int)) _ _);rw [Q5, Qm, decide_eq_false (by omega)];refine Stp.fin (TotP.bind (Qd5 h.msg) (fun v hv => ?_));exact TotP.cond (fun _ => .ret trivial) (fun _ => Qia h l v hv)
 have h1 : Any (fun N => Q1e N l) := by
  unfold Q1e
  repeat' first
   | exact TotP.ret trivial
   | refine TotP.cond (fun _ => ?_) (fun _ => ?_)
 unfold Vk Q3w;refine TotP.bind (V := fun _ => True) ?_ (fun _ _ => .ret trivial);refine TotP.bind h1 (fun _ _ => ?_);exact TotP.cond (fun _ => .ret trivial) (fun _ => TotP.cond (fun _ => .ret trivial) (fun _ => h0))
end
end
end Go.Av
namespace Go.Av
noncomputable section
theorem Qt4 (p : Qa) (h1 : p.Filters.length ≤ maxLen) (h2 : p.Props.length ≤ maxLen) (h3 : p.Will.Props.length ≤ maxLen) : TotP (fun N => Vh N p) (fun v => v = true → Qvb p) := by
 have hm := Qat
 have h30 : 300 ≤ maxLen := by unfold maxLen; decide
 have tail : (p.Filters.length ≤ 30 → ∀ f ∈ p.Filters, f.Topic.length ≤ 2000) → TotP (fun N => cond (Q3 .leq (p.Topic.length : Int) 2000) (cond (Q3 .leq (p.Payload.length : Int) 2000) (cond (Q3 .leq (p.Client.length : Int) 2000) (cond (Q3 .leq (p.User.length : Int) 2000) (cond (Q3 .leq (p.Pass.length : Int) 2000)
  (cond (Q3 .leq (p.Will.Topic.length : Int) 2000) (cond (Q3 .leq (p.Will.Payload.length : Int) 2000) (cond (Q3 .leq ((Q8 (cI .i64) p.Codes).length : Int) 30) (cond (Q3 .leq (p.Filters.length : Int) 30)
  ((Z3 N p.Props).bind fun v26 => cond v26 ((Z3 N p.Will.Props).bind fun v29 => some v29) (some false)) (some false)) (some false)) (some false)) (some false)) (some false)) (some false)) (some false)) (some false)) (some false)) (fun v => v = true → Qvb p) := by
  intro hf;rw [Q5]
  iterate 9 refine TotP.cond (fun _ => ?_) (fun _ => .ret (fun h => nomatch h))
  rename_i a1 a2 a3 a4 a5 a6 a7 a8 a9;rw [Q1z] at a1 a2 a3 a4 a5 a6 a7 a8 a9;have a1 := of_decide_eq_true a1; have a2 := of_decide_eq_true a2; have a3 := of_decide_eq_true a3;have a4 := of_decide_eq_true a4; have a5 := of_decide_eq_true a5; have a6 := of_decide_eq_true a6;have a7 := of_decide_eq_true a7; have a8 := of_decide_eq_true a8; have a9 := of_decide_eq_true a9;refine TotP.bind (Qfz _ h2) (fun v hv => TotP.cond (fun hv1 => ?_) (fun _ => .ret (fun h => nomatch h)));refine TotP.bind (Qfz _ h3) (fun w hw => .ret (fun hw1 => ?_));have g1 := hv hv1; have g2 := hw hw1;exact ⟨⟨by omega, by omega, by omega, by omega⟩, ⟨g1.1, fun x hx => Mv (g1.2 x hx).1 h30⟩, ⟨g2.1, fun x hx => Mv (g2.2 x hx).1 h30⟩, by omega, by omega, by omega, by omega, by omega, by omega, by omega, by omega, by omega, hf (by omega)⟩
 refine Q3y (L := fun N n s => Zk N p n s) p.Filters.length (fun i => ∀ j (h : j < p.Filters.length), j < i → (p.Filters[j]).Topic.length ≤ 2000) (fun i hi hj => ?_) (fun hj => ?_) (fun j _ hj => by omega)
 ·show Stp _ _ _ (fun N n => cond (Q3 .lss (i : Int) ((Q8 Qn.cells p.Filters).length : Int)) _ _);rw [Q5, Qm];refine Stp.cond (fun _ => ?_) (fun h => by have := of_decide_eq_false h; omega);refine Stp.cond (fun _ => ?_) (fun h => Stp.fin (tail (fun hc => ?_)))
  ·refine Stp.idx (Qw hi) ?_;rw [Q3h];refine Stp.cond (fun _ => Stp.ret (fun h => nomatch h)) (fun h1 => ?_);have h1 := of_decide_eq_false h1;rw [w64 _ (by omega)];refine Stp.go (L := fun N n s => Zk N p n s) _ ⟨by omega, fun j hj' hji => ?_⟩
   by_cases e : j = i
   ·subst e; omega
   exact hj j hj' (by omega)
  rw [Qm] at h; have := of_decide_eq_false h; omega
 show Stp _ _ _ (fun N n => cond (Q3 .lss (p.Filters.length : Int) ((Q8 Qn.cells p.Filters).length : Int)) _ _);rw [Q5, Qm];refine Stp.cond (fun h => by have := of_decide_eq_true h; omega) (fun _ => Stp.fin (tail (fun _ f hf => ?_)));obtain ⟨j, hj', rfl⟩ := Bq hf;exact hj j hj' hj'
theorem Z0s (d : Wd) : TotP (fun N => Wm N d) (fun v => v = true → Z51 d) := by
 refine TotP.cond (fun _ => .ret (fun h => nomatch h)) (fun h0 => ?_);rw [Q5, Q3h] at h0;have h0 := of_decide_eq_false h0;refine TotP.bind (V := fun v => v = true → OkM d.Msg) ?_ (fun v hv => ?_)
 ·show TotP (fun N => cond (Q3 .leq (d.Msg.Name.length : Int) 70000) _ _) _;rw [Q1z, Q1z];refine TotP.cond (fun h1 => .ret (fun h2 => ?_)) (fun _ => .ret (fun h => nomatch h));have h1 := of_decide_eq_true h1; have h2 := of_decide_eq_true h2;exact ⟨by omega, by omega⟩
 refine TotP.cond (fun _ => .ret (fun h => nomatch h)) (fun hn => ?_);have hM := hv (by simpa using hn);refine Q3y (L := fun N n s => Zd N d n s) d.Hops.length (fun i => ∀ j (h : j < d.Hops.length), j < i → (d.Hops[j]).Node.length ≤ 300) (fun i hi hj => ?_) (fun hj => ?_) (fun j _ hj => by omega)
 ·show Stp _ _ _ (fun N n => cond (Q3 .lss (i : Int) ((Q8 Q0t.cells d.Hops).length : Int)) _ _);rw [Q5, Qm];refine Stp.cond (fun _ => ?_) (fun h => by have := of_decide_eq_false h; omega);refine Stp.idx (Qw hi) ?_;rw [Q3h];refine Stp.cond (fun _ => Stp.ret (fun h => nomatch h)) (fun h1 => ?_);have h1 := of_decide_eq_false h1;rw [w64 _ (by omega)];refine Stp.go (L := fun N n s => Zd N d n s) _ ⟨by omega, fun j hj' hji => ?_⟩
  by_cases e : j = i
  ·subst e; omega
  exact hj j hj' (by omega)
 show Stp _ _ _ (fun N n => cond (Q3 .lss (d.Hops.length : Int) ((Q8 Q0t.cells d.Hops).length : Int)) _ _);rw [Q5, Qm];refine Stp.cond (fun h => by have := of_decide_eq_true h; omega) (fun _ => Stp.ret (fun _ => ⟨by omega, fun x hx => ?_, hM⟩));obtain ⟨j, hj', rfl⟩ := Bq hx;exact hj j hj' hj'
theorem Qwv (f : Yj) (hv : ∀ x ∈ f.Values, OkV x) : TotP (fun N => Zv N f) (fun v => v = true → FB f) := by
 obtain ⟨r, _, N0, h⟩ := Qts f;refine ⟨r, fun hr => ?_, N0, h⟩;obtain ⟨b, h1, h2⟩ := Qnm (N := max N0 800000000) (by omega) f;rw [show Zv (max N0 800000000) f = some r from h _ (by omega)] at h1;have := h2 ((Option.some.inj h1).symm.trans hr);exact Qwy this.1 this.2.2 hv
structure LE (e : Qv) : Prop where
 topic : e.Topic.length ≤ 2000
 payload : e.Payload.length ≤ 2000
 props : OkP e.Props
 pk : Qvb e.Packet
 dg : Z51 ⟨e.Hops, e.Msg⟩
 fb : FB e.Frame
theorem Qx9 (e : Qv) (h : OkE e) (hv : ∀ x ∈ e.Frame.Values, OkV x) : TotP (fun N => Vq N e) (fun v => v = true → LE e) := by
 have h30 : 300 ≤ maxLen := by unfold maxLen; decide
 refine TotP.cond (fun h1 => ?_) (fun _ => .ret (fun h => nomatch h));refine TotP.cond (fun h2 => ?_) (fun _ => .ret (fun h => nomatch h));rw [Q1z] at h1 h2;have h1 := of_decide_eq_true h1; have h2 := of_decide_eq_true h2;refine TotP.bind (Qfz _ h.props) (fun v hv1 => ?_);refine TotP.cond (fun h3 => ?_) (fun _ => .ret (fun h => nomatch h));refine TotP.bind (Qt4 _ h.filters h.pprops h.wprops) (fun u hu => ?_);refine TotP.cond (fun hu1 => ?_) (fun _ => .ret (fun h => nomatch h));refine TotP.bind (Z0s _) (fun w hw => ?_);refine TotP.cond (fun h4 => ?_) (fun _ => .ret (fun h => nomatch h));refine TotP.bind (Qwv _ hv) (fun x hx => .ret (fun h5 => ?_));have g := hv1 h3;exact ⟨by omega, by omega, ⟨g.1, fun x hx => Mv (g.2 x hx).1 h30⟩, hu hu1, hw h4, hx h5⟩
theorem Q89 (N : Nat) (s : List Ql) (h : s.length ≤ 100000) : Q04 N s = some s := by
 unfold Q04
 cases s with
 | nil => rfl
 | cons x s =>
  have e : Nat.beq (x :: s).length 0 = false := rfl
  have e2 : Nat.ble ((0 + (x :: s).length + 4096) * 48) 17592186044416 = true := by rw [Lk]; omega
  rw [e, e2]; rfl
theorem Qnj (N : Nat) (s : List Q0t) (h : s.length ≤ 100000) : Q50 N s = some s := by
 unfold Q50
 cases s with
 | nil => rfl
 | cons x s =>
  have e : Nat.beq (x :: s).length 0 = false := rfl
  have e2 : Nat.ble ((0 + (x :: s).length + 4096) * 24) 17592186044416 = true := by rw [Lk]; omega
  rw [e, e2]; rfl
theorem Qnp (N : Nat) (s : List Int) (h : s.length ≤ 100000) : Q7p N s = some s := by
 unfold Q7p
 cases s with
 | nil => rfl
 | cons x s =>
  have e : Nat.beq (x :: s).length 0 = false := rfl
  have e2 : Nat.ble ((0 + (x :: s).length + 4096) * 8) 17592186044416 = true := by rw [Lk]; omega
  rw [e, e2]; rfl
theorem Qh5 (N : Nat) (s : List Qn) (h : s.length ≤ 100000) : Q3u N s = some s := by
 unfold Q3u
 cases s with
 | nil => rfl
 | cons x s =>
  have e : Nat.beq (x :: s).length 0 = false := rfl
  have e2 : Nat.ble ((0 + (x :: s).length + 4096) * 40) 17592186044416 = true := by rw [Lk]; omega
  rw [e, e2]; rfl
theorem Qnk (N : Nat) (p : Qa) (h : Qvb p) : Q58 N p = some p := by
 have h1 := h.codes; have h2 := h.filters.1; have h3 := h.props.len; have h4 := h.wprops.len;unfold Q58;rw [Qnp N _ (by omega), Qh5 N _ (by omega), Q89 N _ (by omega), Q89 N _ (by omega)];rfl
theorem Qvc (e : Qv) (h : LE e) : Tot (fun N => Q68 N e) e := by
 have h1 := h.props.len; have h2 := h.dg.hops
 have key : TotP (fun N => Vn N e e.Props e.Hops e.Packet N 0 []) (fun r => r = e) := by
  have hl : e.Frame.Values.length < 160000000 := by have := h.fb.sz; have := Q1.szs_len e.Frame.Values; omega
  have := Q8b (L := fun N n (q : Int × List Q1) => Vn N e e.Props e.Hops e.Packet n q.1 q.2) (Q := fun r => r = e) (fun q => ∃ i : Nat, q.1 = (i : Int) ∧ i ≤ e.Frame.Values.length ∧ q.2 = e.Frame.Values.take i) (fun q => e.Frame.Values.length - q.1.toNat) ?_ (0, []) ⟨0, rfl, by omega, rfl⟩
  ·exact this
  rintro ⟨s, l⟩ ⟨i, hs, hi, hl2⟩
  simp only at hs hl2
  subst hs hl2;show Stp _ _ _ (fun N n => cond (Q3 .lss (i : Int) ((Q1.rows e.Frame.Values).length : Int)) _ _);rw [Q1.rows_eq, Q5, Qm];dsimp only;refine Stp.cond (fun hx => ?_) (fun hx => Stp.ret ?_)
  ·have hx := of_decide_eq_true hx
   have hi : i < e.Frame.Values.length := by omega
   refine Stp.idx (Qw hi) ?_;have hf := h.fb.one _ (Mf hi);refine Stp.bind (f := fun N => Un N e.Frame.Values[i]) (V := (· = e.Frame.Values[i])) ⟨_, rfl, e.Frame.Values[i].sz + 1, fun N hN => Que N e.Frame.Values[i] (by omega) (by omega)⟩ (fun v hv => ?_);subst hv;refine Stp.chk (by rw [Lk, Ma]; omega) ?_
   have e1 : IntKind.wrap .i64 ((i : Int) + 1) = ((i + 1 : Nat) : Int) := by rw [w64 _ (by omega)]; omega
   rw [e1];exact Stp.go (L := fun N n (q : Int × List Q1) => Vn N e e.Props e.Hops e.Packet n q.1 q.2) (((i + 1 : Nat) : Int), e.Frame.Values.take i ++ [e.Frame.Values[i]]) ⟨⟨i + 1, rfl, by omega, by rw [Bb hi]⟩, by simp only [Lt]; omega⟩
  have hx := of_decide_eq_false hx;rw [Mq (by omega)]
 obtain ⟨r, rfl, N0, hN⟩ := key;refine ⟨N0, fun N hh => ?_⟩;show (Q04 N r.Props).bind _ = some r;rw [Q89 N _ (by omega)];rw [Lg];show (Q50 N r.Hops).bind _ = some r;rw [Qnj N _ (Mv h2 (by omega)), Lg, Qnk N _ h.pk, Lg];exact hN N hh
end
end Go.Av
namespace Go.Av
noncomputable section
theorem Z2q (a b : Qv) : (((a.Msg.Type' : Int) == b.Msg.Type') && (((a.Msg.Flags.Dup : Bool) == b.Msg.Flags.Dup) && (((a.Msg.Flags.QoS : Int) == b.Msg.Flags.QoS) && (((a.Msg.Flags.Retain : Bool) == b.Msg.Flags.Retain) && (((a.Msg.Flags.Will : Bool) == b.Msg.Flags.Will) && (((a.Msg.Flags.Clean : Bool) == b.Msg.Flags.Clean) && (((a.Msg.Flags.Type' : Int) == b.Msg.Flags.Type') && (((a.Msg.Gateway : Int) == b.Msg.Gateway) && (((a.Msg.Radius : Int) == b.Msg.Radius) && (((a.Msg.Time : Int) == b.Msg.Time) && (((a.Msg.Timed : Bool) == b.Msg.Timed) && (((a.Msg.TopicID : Int) == b.Msg.TopicID) && (((a.Msg.MsgID : Int) == b.Msg.MsgID) && (((a.Msg.Code : Int) == b.Msg.Code) && (((a.Msg.Name : List UInt8) == b.Msg.Name) && (((a.Msg.Data : List UInt8) == b.Msg.Data) && true)))))))))))))))) = true ↔ a.Msg = b.Msg := by
 generalize a.Msg = m; generalize b.Msg = n;obtain ⟨a1, ⟨f1, f2, f3, f4, f5, f6⟩, a2, a3, a4, a5, a6, a7, a8, a9, a10⟩ := m;obtain ⟨b1, ⟨g1, g2, g3, g4, g5, g6⟩, b2, b3, b4, b5, b6, b7, b8, b9, b10⟩ := n;simp
 intros; simp only [and_assoc]
theorem Z4i {a b : Qv} (h0 : a.Proto = b.Proto) (h1 : a.Kind = b.Kind) (h2 : a.Topic = b.Topic) (h3 : a.Payload = b.Payload) (h4 : a.QoS = b.QoS) (h5 : a.Retain = b.Retain) (h6 : a.Dup = b.Dup) (h7 : a.ID = b.ID) (h8 : a.Props = b.Props) (h9 : a.Type' = b.Type') (h10 : a.Hops = b.Hops) (h11 : a.Channel = b.Channel) (h12 : a.Packet = b.Packet) (h13 : a.Msg = b.Msg) (h14 : a.Frame = b.Frame) : a = b := by
 cases a; cases b; simp only at h0 h1 h2 h3 h4 h5 h6 h7 h8 h9 h10 h11 h12 h13 h14;subst h0 h1 h2 h3 h4 h5 h6 h7 h8 h9 h10 h11 h12 h13 h14; rfl
structure Zjt (a : Qv) : Prop where
 props : a.Props.length ≤ maxLen
 hops : a.Hops.length ≤ maxLen
 pk : Z3o a.Packet
 fr : Q1.szs a.Frame.Values < 700000000
theorem Q7r (a b : Qv) (h : Zjt a) : TotP (fun N => J6 N a b) (fun v => v = true ↔ a = b) := by
 unfold J6;simp only [Q1x, Qxa];refine TotP.cond (fun g => .ret ⟨fun e => absurd e Lz, fun e => absurd g (by rw [e]; simp)⟩) (fun g => ?_)
 have e0 : a.Proto = b.Proto := by simpa using g
 clear g;refine TotP.cond (fun g => .ret ⟨fun e => absurd e Lz, fun e => absurd g (by rw [e]; simp)⟩) (fun g => ?_)
 have e1 : a.Kind = b.Kind := by simpa using g
 clear g;refine TotP.cond (fun g => .ret ⟨fun e => absurd e Lz, fun e => absurd g (by rw [e]; simp)⟩) (fun g => ?_)
 have e2 : a.Topic = b.Topic := by simpa using g
 clear g;refine TotP.cond (fun g => .ret ⟨fun e => absurd e Lz, fun e => absurd g (by rw [e]; simp)⟩) (fun g => ?_)
 have e3 : a.Payload = b.Payload := by simpa using g
 clear g;refine TotP.cond (fun g => .ret ⟨fun e => absurd e Lz, fun e => absurd g (by rw [e]; simp)⟩) (fun g => ?_)
 have e4 : a.QoS = b.QoS := by simpa using g
 clear g;refine TotP.cond (fun g => .ret ⟨fun e => absurd e Lz, fun e => absurd g (by rw [e]; simp)⟩) (fun g => ?_)
 have e5 : a.Retain = b.Retain := by simpa using g
 clear g;refine TotP.cond (fun g => .ret ⟨fun e => absurd e Lz, fun e => absurd g (by rw [e]; simp)⟩) (fun g => ?_)
 have e6 : a.Dup = b.Dup := by simpa using g
 clear g;refine TotP.cond (fun g => .ret ⟨fun e => absurd e Lz, fun e => absurd g (by rw [e]; simp)⟩) (fun g => ?_)
 have e7 : a.ID = b.ID := by simpa using g
 clear g;refine TotP.cond (fun g => .ret ⟨fun e => absurd e Lz, fun e => absurd g (by rw [e]; simp)⟩) (fun g => ?_)
 have e8 : a.Type' = b.Type' := by simpa using g
 clear g;refine TotP.cond (fun g => .ret ⟨fun e => absurd e Lz, fun e => absurd g (by rw [e]; simp)⟩) (fun g => ?_)
 have e9 : a.Channel = b.Channel := by simpa using g
 clear g;refine TotP.bind (Qlt _ _ h.props) (fun v1 g1 => ?_);refine TotP.cond (fun c1 => ?_) (fun c1 => .ret ⟨fun e => absurd e Lz, fun e => absurd (g1.2 (by rw [e])) (by rw [c1]; simp)⟩);refine TotP.bind (Qmv _ _ h.hops) (fun v2 g2 => ?_);refine TotP.cond (fun c2 => ?_) (fun c2 => .ret ⟨fun e => absurd e Lz, fun e => absurd (g2.2 (by rw [e])) (by rw [c2]; simp)⟩);refine TotP.bind (Qdu _ _ h.pk) (fun v3 g3 => ?_);refine TotP.cond (fun c3 => ?_) (fun c3 => .ret ⟨fun e => absurd e Lz, fun e => absurd (g3.2 (by rw [e])) (by rw [c3]; simp)⟩);refine TotP.cond (fun c4 => ?_) (fun c4 => .ret ⟨fun e => absurd e Lz, fun e => absurd ((Z2q a b).2 (by rw [e])) (by rw [c4]; simp)⟩);refine TotP.bind (f := fun N => Xw N a.Frame b.Frame) (V := fun v => v = decide (a.Frame = b.Frame)) ⟨_, rfl, 800000000, fun N hN => Qgq hN _ _ h.fr⟩ (fun v g => .ret ?_);have q := (Z2q a b).1 c4;rw [g, decide_eq_true_eq];exact ⟨fun e => Z4i e0 e1 e2 e3 e4 e5 e6 e7 (g1.1 c1) e8 (g2.1 c2) e9 (g3.1 c3) q e, fun e => by rw [e]⟩
structure PubT (e : Qv) (c t b : Bool) : Prop where
 known : e.Proto = 1 ∨ e.Proto = 2 ∨ e.Proto = 3 ∨ e.Proto = 4
 kind : e.Kind = 1
 qos : (0 ≤ e.QoS ∧ e.QoS ≤ 2) ∨ (e.Proto = 3 ∧ e.QoS = -1)
 id : 0 ≤ e.ID ∧ e.ID ≤ 65535
 cid : c = decide (e.ID ≠ 0)
 dup : e.Dup = true → c = true ∨ e.Proto = 3
 props : 0 < e.Props.length → e.Proto = 2
 ty : e.Proto = 3 → t = true
 ty2 : e.Proto ≠ 3 → e.Type' = 0 ∧ e.Hops.length = 0
 ch : 0 ≤ e.Channel ∧ e.Channel ≤ 65535
 ch4 : e.Channel ≠ 0 → e.Proto = 4
 bare : b = true
theorem Q9p {b : Bool} {x y : Option Int} {r : Option Int} (h1 : x = r) (h2 : y = r) : cond b x y = r := by cases b <;> assumption
theorem Z15 {b : Bool} {x y : Option Int} {r : Option Int} (h1 : b = true → x = r) (h2 : b = false → y = r) : cond b x y = r := by
 cases b with
 | true => exact h1 rfl
 | false => exact h2 rfl
section
variable {N : Nat} {e : Qv} {t b : Bool} {v : Int} (hn : Z5 N e.Topic = some true) (ht : Xf N e = some t) (hb : Ud N e = some b) (hv : Zl N 3 e.Props = some v)
include hn ht hb hv
theorem Z06 (c : Bool) (h : ¬ PubT e c t b) : Z0 N e c = some 2 := by
 simp only [Z0, Xn, Yw, Xr, Xm, Xp, Qet, hn, ht, hb, hv, Q92, Lg, Q1b, Q1x, Q3h, Q5]
 by_cases h1 : e.Proto = 1 ∨ e.Proto = 2 ∨ e.Proto = 3 ∨ e.Proto = 4
 case neg =>
  have d0 : decide (e.Proto = 1 ∨ e.Proto = 2 ∨ e.Proto = 3 ∨ e.Proto = 4) = false := decide_eq_false h1;simp only [d0, Mh, Ml, cond_true, cond_false, beq_self_eq_true, Nr, Lj]
  repeat' first | refine Q9p ?_ ?_ | exact rfl
 by_cases h2 : e.Kind = 1
 case neg =>
  have d0 : decide (e.Kind ≠ 1) = true := decide_eq_true h2;simp only [d0, Mh, Ml, cond_true, cond_false, beq_self_eq_true, Nr, Lj]
  repeat' first | refine Q9p ?_ ?_ | exact rfl
 by_cases h3 : (0 ≤ e.QoS ∧ e.QoS ≤ 2) ∨ (e.Proto = 3 ∧ e.QoS = -1)
 case neg =>
  have d0 : (decide (0 ≤ e.QoS) && decide (e.QoS ≤ 2)) = false := by
   rw [show (decide (0 ≤ e.QoS) && decide (e.QoS ≤ 2)) = decide (0 ≤ e.QoS ∧ e.QoS ≤ 2) by simp]; exact decide_eq_false (by omega)
  by_cases p : e.Proto = 3
  ·have d1 : decide (e.QoS = -1) = false := decide_eq_false (by omega);simp only [d0, d1, Mh, Ml, cond_true, cond_false]
   repeat' first | refine Q9p ?_ ?_ | exact rfl
  have d1 : decide (e.Proto = 3) = false := decide_eq_false p;simp only [d0, d1, Mh, Ml, cond_true, cond_false]
  repeat' first | refine Q9p ?_ ?_ | exact rfl
 by_cases h4 : 0 ≤ e.ID ∧ e.ID ≤ 65535
 case neg =>
  have d0 : (decide (0 ≤ e.ID) && decide (e.ID ≤ 65535)) = false := by
   rw [show (decide (0 ≤ e.ID) && decide (e.ID ≤ 65535)) = decide (0 ≤ e.ID ∧ e.ID ≤ 65535) by simp]; exact decide_eq_false h4
  simp only [d0, Mh, Ml, cond_true, cond_false]
  repeat' first | refine Q9p ?_ ?_ | exact rfl
 by_cases h5 : c = decide (e.ID ≠ 0)
 case neg =>
  have d0 : (c == decide (e.ID ≠ 0)) = false := by simpa using h5
  simp only [d0, Mh, Ml, cond_true, cond_false]
  repeat' first | refine Q9p ?_ ?_ | exact rfl
 by_cases h6 : e.Dup = true → c = true ∨ e.Proto = 3
 case neg =>
  have d0 : e.Dup = true := by
   cases hd : e.Dup with
   | true => rfl
   | false => exact absurd (fun q => absurd (hd.symm.trans q) (by simp)) h6
  have d1 : c = false := by
   cases hc : c with
   | false => rfl
   | true => exact absurd (fun _ => .inl hc) h6
  have d2 : decide (e.Proto = 3) = false := decide_eq_false (fun q => h6 (fun _ => .inr q));simp only [d0, d1, d2, Mh, Ml, cond_true, cond_false]
  repeat' first | refine Q9p ?_ ?_ | exact rfl
 by_cases h7 : 0 < e.Props.length → e.Proto = 2
 case neg =>
  have d0 : decide ((e.Props.length : Int) > 0) = true := decide_eq_true (by omega);have d1 : decide (e.Proto ≠ 2) = true := decide_eq_true (by omega);simp only [d0, d1, Mh, Ml, cond_true, cond_false]
  repeat' first | refine Q9p ?_ ?_ | exact rfl
 by_cases h8 : e.Proto = 3 → t = true
 case neg =>
  have d0 : decide (e.Proto = 3) = true := decide_eq_true (by
   by_cases q : e.Proto = 3
   ·exact q
   exact absurd (fun r => absurd r q) h8)
  have d1 : t = false := by
   cases hc : t with
   | false => rfl
   | true => exact absurd (fun _ => hc) h8
  simp only [d0, d1, Mh, Ml, cond_true, cond_false]
  repeat' first | refine Q9p ?_ ?_ | exact rfl
 by_cases h9 : e.Proto ≠ 3 → e.Type' = 0 ∧ e.Hops.length = 0
 case neg =>
  have d0 : decide (e.Proto = 3) = false := decide_eq_false (by omega)
  by_cases q : e.Type' = 0
  ·have d1 : decide ((e.Hops.length : Int) > 0) = true := decide_eq_true (by omega);simp only [d0, d1, Mh, Ml, cond_true, cond_false]
   repeat' first | refine Q9p ?_ ?_ | exact rfl
  have d1 : decide (e.Type' ≠ 0) = true := decide_eq_true q;simp only [d0, d1, Mh, Ml, cond_true, cond_false]
  repeat' first | refine Q9p ?_ ?_ | exact rfl
 by_cases h10 : 0 ≤ e.Channel ∧ e.Channel ≤ 65535
 case neg =>
  have d0 : (decide (0 ≤ e.Channel) && decide (e.Channel ≤ 65535)) = false := by
   rw [show (decide (0 ≤ e.Channel) && decide (e.Channel ≤ 65535)) = decide (0 ≤ e.Channel ∧ e.Channel ≤ 65535) by simp]; exact decide_eq_false h10
  simp only [d0, Mh, Ml, cond_true, cond_false]
  repeat' first | refine Q9p ?_ ?_ | exact rfl
 by_cases h11 : e.Channel ≠ 0 → e.Proto = 4
 case neg =>
  have d0 : decide (e.Channel ≠ 0) = true := decide_eq_true (by omega);have d1 : decide (e.Proto ≠ 4) = true := decide_eq_true (by omega);simp only [d0, d1, Mh, Ml, cond_true, cond_false]
  repeat' first | refine Q9p ?_ ?_ | exact rfl
 have d0 : b = false := by
  cases hc : b with
  | false => rfl
  | true => exact absurd ⟨h1, h2, h3, h4, h5, h6, h7, h8, h9, h10, h11, hc⟩ h
 simp only [d0, Mh, Ml, cond_true, cond_false]
 repeat' first | refine Q9p ?_ ?_ | exact rfl
theorem Qxp (c : Bool) (h : PubT e c t b) (h0 : v = 0) : Z0 N e c = some 0 := by
 subst h0;obtain ⟨h1, h2, h3, h4, h5, h6, h7, h8, h9, h10, h11, h12⟩ := h;simp only [Z0, Xn, Yw, Xr, Xm, Xp, Qet, hn, ht, hb, hv, Q92, Lg, Q1b, Q1x, Q3h, Q5];have d1 : decide (e.Proto = 1 ∨ e.Proto = 2 ∨ e.Proto = 3 ∨ e.Proto = 4) = true := decide_eq_true h1;have d2 : decide (e.Kind ≠ 1) = false := decide_eq_false (by omega)
 have d4 : (decide (0 ≤ e.ID) && decide (e.ID ≤ 65535)) = true := by simp; omega
 have d5 : (c == decide (e.ID ≠ 0)) = true := by rw [h5]; simp
 have d10 : (decide (0 ≤ e.Channel) && decide (e.Channel ≤ 65535)) = true := by simp; omega
 have dz : decide ((0 : Int) ≠ 0) = false := rfl;simp only [d1, d2, d4, d5, d10, h12, dz, Mh, Ml, cond_true, cond_false];clear h5 d5 d1 d2 d4 d10 dz hn ht hb hv
 have nq : ∀ {x : Bool}, (!x) = true → x = false := fun {x} h => by cases x; rfl; cases h
 have nr : ∀ {x : Bool}, (!x) = false → x = true := fun {x} h => by cases x; cases h; rfl
 have h6' : e.Dup = true → c = false → e.Proto = 3 := fun a b => by
  rcases h6 a with h | h
  ·rw [b] at h; cases h
  exact h
 by_cases p3 : e.Proto = 3
 ·have t1 := h8 p3;have a1 : decide (e.Proto = 3) = true := decide_eq_true p3;have a2 : decide ((e.Props.length : Int) > 0) = false := decide_eq_false (by omega);have a3 : decide (e.Channel ≠ 0) = false := decide_eq_false (by omega);simp only [a1, a2, a3, t1, Mh, Ml, cond_true, cond_false];refine Z15 (fun g => ?_) (fun g => ?_)
  ·have g := nq g
   have a4 : decide (e.QoS = -1) = true := decide_eq_true (by
    rw [show (decide (0 ≤ e.QoS) && decide (e.QoS ≤ 2)) = decide (0 ≤ e.QoS ∧ e.QoS ≤ 2) by simp] at g
    have := of_decide_eq_false g; omega)
   simp only [a4, Mh, Ml, cond_true, cond_false]
   repeat' first | refine Q9p ?_ ?_ | exact rfl
  repeat' first | refine Q9p ?_ ?_ | exact rfl
 have t1 := h9 p3;have a1 : decide (e.Proto = 3) = false := decide_eq_false p3
 have a2 : (decide (0 ≤ e.QoS) && decide (e.QoS ≤ 2)) = true := by simp; omega
 have a3 : decide (e.Type' ≠ 0) = false := decide_eq_false (by omega);have a4 : decide ((e.Hops.length : Int) > 0) = false := decide_eq_false (by omega);simp only [a1, a2, a3, a4, Mh, Ml, cond_true, cond_false]
 have P : ∀ {x y : Option Int}, x = some 0 → (cond (decide ((e.Props.length : Int) > 0)) (cond (decide (e.Proto ≠ 2)) (some 2) x) y) = y ∨ (cond (decide ((e.Props.length : Int) > 0)) (cond (decide (e.Proto ≠ 2)) (some 2) x) y) = x := fun {x y} hx => by
  by_cases q : 0 < e.Props.length
  ·right;rw [decide_eq_true (show (e.Props.length : Int) > 0 by omega), decide_eq_false (show ¬ e.Proto ≠ 2 by have := h7 q; omega)]; rfl
  left;rw [decide_eq_false (show ¬ (e.Props.length : Int) > 0 by omega)]; rfl
 have C : ∀ {x y : Option Int}, x = some 0 → y = some 0 → (cond (decide (e.Channel ≠ 0)) (cond (decide (e.Proto ≠ 4)) (some 2) x) y) = some 0 := fun {x y} hx hy => by
  by_cases q : e.Channel = 0
  ·rw [decide_eq_false (by omega)]; exact hy
  rw [decide_eq_true q, decide_eq_false (show ¬ e.Proto ≠ 4 by have := h11 q; omega)]; exact hx
 have P' : ∀ {x y : Option Int}, x = some 0 → y = some 0 → (cond (decide ((e.Props.length : Int) > 0)) (cond (decide (e.Proto ≠ 2)) (some 2) x) y) = some 0 := fun {x y} hx hy => by
  rcases P (x := x) (y := y) hx with h | h
  ·rw [h]; exact hy
  rw [h]; exact hx
 refine Z15 (fun g => ?_) (fun g => ?_)
 ·refine Z15 (fun g2 => ?_) (fun g2 => ?_)
  ·exact absurd (h6' g (nq g2)) p3
  exact P' (C rfl rfl) (C rfl rfl)
 exact P' (C rfl rfl) (C rfl rfl)
end
end
end Go.Av
namespace Go.Av
noncomputable section
section
variable {R S T A : Type}
theorem TotP.succ {f g : Nat → Option R} {Q : R → Prop} (e : ∀ N, f (N + 1) = g N) (h : TotP g Q) : TotP f Q := by
 obtain ⟨r, hr, N0, hN⟩ := h;refine ⟨r, hr, N0 + 1, fun N h => ?_⟩;obtain ⟨M, rfl⟩ : ∃ M, N = M + 1 := ⟨N - 1, by omega⟩;rw [e]; exact hN M (by omega)
theorem Z1c {L : Nat → Nat → Int → A → Option R} {Q : R → Prop} (m : Nat) (J : Nat → A → Prop) (Qu : ∀ i a, i < m → J i a → Stp (fun N n (p : Int × A) => L N n p.1 p.2) (fun p => p.1 = ((i + 1 : Nat) : Int) ∧ J (i + 1) p.2) Q (fun N n => L N (n + 1) (i : Int) a))
  (fin : ∀ a, J m a → Stp (fun N n (p : Int × A) => L N n p.1 p.2) (fun _ => False) Q (fun N n => L N (n + 1) (m : Int) a)) (a : A) (h0 : J 0 a) : TotP (fun N => L N N 0 a) Q := by
 refine Q8b (L := fun N n (p : Int × A) => L N n p.1 p.2) (S := Int × A) (fun p => ∃ i : Nat, p.1 = (i : Int) ∧ i ≤ m ∧ J i p.2) (fun p => m - p.1.toNat) ?_ (0, a) ⟨0, rfl, Mo _, h0⟩
 rintro ⟨s, a⟩ ⟨i, hs, hi, hj⟩
 simp only at hs hj
 subst hs
 by_cases h : i < m
 ·rcases Qu i a h hj with ⟨r, N0, hr, hL⟩ | ⟨⟨s', a'⟩, N0, ⟨h1, h2⟩, hL⟩
  ·exact .inl ⟨r, N0, hr, hL⟩
  simp only at h1 h2
  subst h1;exact .inr ⟨(_, _), N0, ⟨⟨i + 1, rfl, h, h2⟩, by simp only [Lt]; omega⟩, hL⟩
 have : i = m := by omega
 subst this
 rcases fin a hj with ⟨r, N0, hr, hL⟩ | ⟨_, _, h2, _⟩
 ·exact .inl ⟨r, N0, hr, hL⟩
 exact h2.elim
theorem Z28 {L : Nat → (T → Option R) → Nat → S → Option R} {O : Nat → Nat → T → Option R} {P : T → Prop} {Q : R → Prop} (inv : S → Prop) (μ : S → Nat)
  (Qu : ∀ s, inv s → (∃ r N0, Q r ∧ ∀ N n k, N0 ≤ N → L N k (n + 1) s = some r) ∨ (∃ t, P t ∧ ∀ N n k, L N k (n + 1) s = k t) ∨ (∃ s' N0, (inv s' ∧ μ s' < μ s) ∧ ∀ N n k, N0 ≤ N → L N k (n + 1) s = L N k n s')) (s : S) (h : inv s) : Stp O P Q (fun N n => L N (O N n) N s) := by
 have key : ∀ (m : Nat) (s : S), μ s < m → inv s → (∃ r N0, Q r ∧ ∀ N n k, N0 ≤ N → N0 ≤ n → L N k n s = some r) ∨ ∃ t N0, P t ∧ ∀ N n k, N0 ≤ N → N0 ≤ n → L N k n s = k t := by
  intro m
  induction m with
  | zero => intro s h; omega
  | succ m ih =>
   intro s hm hi
   rcases Qu s hi with ⟨r, N0, hr, hL⟩ | ⟨t, ht, hL⟩ | ⟨s', N0, ⟨h1, h2⟩, hL⟩
   ·refine .inl ⟨r, N0 + 1, hr, fun N n k h1 h2 => ?_⟩;obtain ⟨j, rfl⟩ : ∃ j, n = j + 1 := ⟨n - 1, by omega⟩;exact hL N j k (by omega)
   ·refine .inr ⟨t, 1, ht, fun N n k h1 h2 => ?_⟩;obtain ⟨j, rfl⟩ : ∃ j, n = j + 1 := ⟨n - 1, by omega⟩;exact hL N j k
   rcases ih s' (by omega) h1 with ⟨r, M0, hr, hM⟩ | ⟨t, M0, ht, hM⟩
   ·refine .inl ⟨r, max N0 M0 + 1, hr, fun N n k h1 h2 => ?_⟩;obtain ⟨j, rfl⟩ : ∃ j, n = j + 1 := ⟨n - 1, by omega⟩;exact (hL N j k (by omega)).trans (hM N j k (by omega) (by omega))
   refine .inr ⟨t, max N0 M0 + 1, ht, fun N n k h1 h2 => ?_⟩;obtain ⟨j, rfl⟩ : ∃ j, n = j + 1 := ⟨n - 1, by omega⟩;exact (hL N j k (by omega)).trans (hM N j k (by omega) (by omega))
 rcases key (μ s + 1) s (by omega) h with ⟨r, N0, hr, hL⟩ | ⟨t, N0, ht, hL⟩
 ·exact .inl ⟨r, N0, hr, fun N n hN => hL N N _ hN hN⟩
 exact .inr ⟨t, N0, ht, fun N n hN => hL N N _ hN hN⟩
end
theorem Qok (k : Int) : TotP (fun N => Gg N k) (fun v => 0 ≤ v.1 ∧ v.1 ≤ 64 ∧ (v.2 = true → 1 ≤ v.1)) := by
 unfold Gg
 repeat' first | exact TotP.ret (by decide) | refine TotP.cond (fun _ => ?_) (fun _ => ?_)
theorem Qlz (n b : Int) (s : Bool) (h0 : 0 ≤ b) (h1 : b ≤ 64) (h2 : s = true → 1 ≤ b) : Any (fun N => Vx N n b s) := by
 unfold Vx;refine TotP.cond (fun h => ?_) (fun _ => TotP.cond (fun _ => .ret trivial) (fun _ => TotP.chk (decide_eq_true h0) (.ret trivial)));have := h2 h;exact TotP.chk (by rw [w64 _ (by omega)]; exact decide_eq_true (by omega)) (TotP.cond (fun _ => .ret trivial) (fun _ => .ret trivial))
theorem Quw (n : Int) : Any (fun N => Ui N n) := by
 unfold Ui Y9;refine TotP.cond (fun _ => TotP.bind (V := fun _ => True) ?_ (fun _ _ => .ret trivial)) (fun _ => .ret trivial)
 repeat' first | exact TotP.ret trivial | refine TotP.cond (fun _ => ?_) (fun _ => ?_)
theorem Qsy (v : Q1) (h : (v.Text.length : Int) ≤ 1048576) : Any (fun N => Wh N v) := by
 refine TotP.cond (fun _ => TotP.bind (V := fun _ => True) ⟨_, trivial, v.Text.length + 1, fun N hN => Qgw N _ (by omega)⟩ (fun _ _ => TotP.cond (fun _ => .ret trivial) (fun _ => .ret trivial))) (fun _ => TotP.cond (fun _ => ?_) (fun _ => .ret trivial));refine Q3y (L := fun N n s => V5 N v n s) v.Text.length (fun _ => True) (fun i hi _ => ?_) (fun _ => ?_) trivial
 ·show Stp _ _ _ (fun N n => cond (Q3 .lss (i : Int) (v.Text.length : Int)) _ _);refine Stp.cond (fun _ => Stp.idx (Qw hi) (Stp.cond (fun _ => Stp.ret trivial) (fun _ => ?_))) (fun _ => Stp.ret trivial);rw [w64 _ (by omega)];exact Stp.go (L := fun N n s => V5 N v n s) _ ⟨by omega, trivial⟩
 show Stp _ _ _ (fun N n => cond (Q3 .lss (v.Text.length : Int) (v.Text.length : Int)) _ _);exact Stp.cond (fun h => absurd h (by rw [Qm]; simp)) (fun _ => Stp.ret trivial)
theorem Qld (v : Q1) : Any (fun N => Jo N v) := by
 have ht : Q3 .gtr (v.Text.length : Int) 1048576 = false → Any (fun N => Wh N v) := fun h => Qsy v (by rw [Q3h] at h; have := of_decide_eq_false h; omega)
 have hx : Any (fun N => Ue N v.Kind) := by
  unfold Ue
  repeat' first | exact TotP.ret trivial | refine TotP.cond (fun _ => ?_) (fun _ => ?_)
 unfold Jo;refine TotP.cond (fun _ => .ret trivial) (fun _ => TotP.cond (fun _ => .ret trivial) (fun _ => TotP.bind (Qok v.Kind) (fun w hw => TotP.bind (Qlz _ _ _ hw.1 hw.2.1 hw.2.2) (fun _ _ => ?_))))
 repeat' first | exact TotP.ret trivial | exact TotP.cond (fun _ => .ret trivial) (fun h => TotP.bind (ht h) (fun _ _ => .ret trivial)) | refine TotP.cond (fun _ => ?_) (fun _ => ?_) | refine TotP.bind (Quw _) (fun _ _ => ?_) | refine TotP.bind hx (fun _ _ => ?_)
theorem Qsf (c : Int) : Any (fun N => Q3x N c) := ⟨_, trivial, 0, fun _ _ => rfl⟩
theorem Qvj (c : Int) (v : Q1) : Any (fun N => Q1m N c v) := by
 unfold Q1m Q3v;refine TotP.bind (Qsf c) (fun w _ => ?_)
 repeat' first | exact TotP.ret trivial | refine TotP.cond (fun _ => ?_) (fun _ => ?_) | refine TotP.bind (Qld _) (fun _ _ => ?_) | exact TotP.bind (Qok _) (fun u hu => TotP.bind (Qlz _ 8 u.2 (by decide) (by decide) (fun _ => by decide)) (fun _ _ => .ret trivial)) | refine TotP.bind (V := fun _ => True) ?_ (fun _ _ => .ret trivial)
theorem Qsl (f : Q0) (c : Int) : Any (fun N => U4 N f c) := by
 unfold U4;refine TotP.bind (Qsf c) (fun w _ => ?_)
 repeat' first | exact TotP.ret trivial | refine TotP.cond (fun _ => ?_) (fun _ => ?_) | refine TotP.bind (Qvj _ _) (fun _ _ => ?_)
theorem Qkt (k : Int) (l : List Q0) (hl : l.length < 160000000) : Any (fun N => J2 N k l) := by
 unfold J2;refine TotP.bind (f := fun N => Q55 N k) (V := fun v => v.length ≤ 4) ⟨_, Qrf k, 0, fun _ _ => rfl⟩ (fun cs hc => ?_);refine Q3y (L := fun N n s => X9 N l cs n s) cs.length (fun _ => True) (fun i hi _ => ?_) (fun _ => ?_) trivial
 ·show Stp _ _ _ (fun N n => cond (Q3 .lss (i : Int) ((Q8 (cI .i64) cs).length : Int)) _ _);refine Stp.cond (fun _ => Stp.idx (Qw hi) ?_) (fun _ => Stp.ret trivial);refine Z28 (L := fun N k0 n (p : Bool × Int) => W1 N k0 l (i : Int) cs[i] n p.1 p.2) (O := fun N n s => X9 N l cs n s) (fun p => ∃ j : Nat, p.2 = (j : Int) ∧ j ≤ l.length) (fun p => l.length - p.2.toNat) ?_ (true, 0) ⟨0, rfl, Mo _⟩
  rintro ⟨b, s⟩ ⟨j, hs, hj⟩
  simp only at hs
  subst hs
  by_cases h : j < l.length
  ·have e : Q3 .lss (j : Int) ((Q0.rows l).length : Int) = true := by rw [Q0.rows_eq, Q5, Qm]; exact decide_eq_true (by omega)
   obtain ⟨r, _, N0, hr⟩ := Qsl l[j] cs[i];refine .inr (.inr ⟨(b && r, ((j + 1 : Nat) : Int)), N0, ⟨⟨j + 1, rfl, h⟩, by simp only [Lt]; omega⟩, fun N n k0 hN => ?_⟩);show cond (Q3 .lss (j : Int) ((Q0.rows l).length : Int)) _ _ = _;rw [e, Qw h, w64 _ (by omega)];have hr := hr N hN
   simp only at hr
   cases b
   ·rfl
   simp only [cond_true, Lg, hr, Ci]; rfl
  have e : Q3 .lss (j : Int) ((Q0.rows l).length : Int) = false := by rw [Q0.rows_eq, Q5, Qm]; exact decide_eq_false (by omega)
  cases b
  ·refine .inr (.inl ⟨((i + 1 : Nat) : Int), ⟨rfl, trivial⟩, fun N n k0 => ?_⟩);show cond (Q3 .lss (j : Int) ((Q0.rows l).length : Int)) _ _ = _;rw [e];show k0 (IntKind.wrap .i64 ((i : Int) + 1)) = _;rw [w64 _ (by omega)]; rfl
  refine .inl ⟨cs[i], 0, trivial, fun N n k0 _ => ?_⟩;show cond (Q3 .lss (j : Int) ((Q0.rows l).length : Int)) _ _ = _;rw [e]; rfl
 show Stp _ _ _ (fun N n => cond (Q3 .lss (cs.length : Int) ((Q8 (cI .i64) cs).length : Int)) _ _);exact Stp.cond (fun h => absurd h (by rw [Q5, Qm]; simp)) (fun _ => Stp.ret trivial)
theorem Qpt (f : Q0) : Any (fun N => U8 N f) := TotP.bind (Qkt _ [f] (by simp)) (fun _ _ => .ret trivial)
def Dp : Nat → Q0 → Prop
 | 0, _ => False
 | k + 1, f => f.kids.length < 160000000 ∧ ∀ x ∈ f.kids, Dp k x
theorem Qek : ∀ (k : Nat) (f : Q0), Dp k f → Any (fun N => Ye N f) ∧ ∀ c, Any (fun N => Zx N f c)
 | 0, _, h => h.elim
 | k + 1, f, h => by
  have hw : Any (fun N => Ye N f) := by
   refine TotP.succ (g := fun N => Zw (Zx N) N f N 0 0) (fun N => rfl) ?_;refine Z1c (L := fun N n s a => Zw (Zx N) N f n a s) f.kids.length (fun _ _ => True) (fun i a hi _ => ?_) (fun a _ => ?_) 0 trivial
   ·show Stp _ _ _ (fun N n => cond (Q3 .lss (i : Int) ((Q0.rows f.kids).length : Int)) _ _);refine Stp.cond (fun _ => Stp.idx (Qw hi) (Stp.bind (Qpt _) (fun c _ => Stp.bind (f := fun N => Zx N f.kids[i] c) ((Qek k _ (h.2 _ (Mf hi))).2 c) (fun w _ => ?_)))) (fun _ => Stp.ret trivial);have := h.1;rw [w64 ((i : Int) + 1) (by omega)];exact Stp.go (L := fun N n (p : Int × Int) => Zw (Zx N) N f n p.2 p.1) (_, _) ⟨by simp only; omega, trivial⟩
   show Stp _ _ _ (fun N n => cond (Q3 .lss (f.kids.length : Int) ((Q0.rows f.kids).length : Int)) _ _);exact Stp.cond (fun h => absurd h (by rw [Q0.rows_eq, Q5, Qm]; simp)) (fun _ => Stp.ret trivial)
  refine ⟨hw, fun c => ?_⟩;refine TotP.succ (g := fun N => U5 (Zx N) (Ye N) N f c) (fun N => rfl) ?_;unfold U5;refine TotP.bind (Qsf c) (fun w _ => ?_)
  repeat' first | exact TotP.ret trivial | refine TotP.cond (fun _ => ?_) (fun _ => ?_) | exact TotP.bind hw (fun _ _ => .ret trivial)
theorem Qsh (k : Nat) (f : Q0) (h : Dp k f) : Any (fun N => Vm N f) := by
 cases k with
 | zero => exact h.elim
 | succ k =>
  refine Z1c (L := fun N n s a => Ya N f n a s) f.kids.length (fun _ _ => True) (fun i a hi _ => ?_) (fun a _ => ?_) 1 trivial
  ·show Stp _ _ _ (fun N n => cond (Q3 .lss (i : Int) ((Q0.rows f.kids).length : Int)) _ _);refine Stp.cond (fun _ => Stp.idx (Qw hi) (Stp.bind (f := fun N => Zx N f.kids[i] f.element) ((Qek k _ (h.2 _ (Mf hi))).2 _) (fun w _ => ?_))) (fun _ => Stp.ret trivial);have := h.1;rw [w64 ((i : Int) + 1) (by omega)];exact Stp.go (L := fun N n (p : Int × Int) => Ya N f n p.2 p.1) (_, _) ⟨by simp only; omega, trivial⟩
  show Stp _ _ _ (fun N n => cond (Q3 .lss (f.kids.length : Int) ((Q0.rows f.kids).length : Int)) _ _);exact Stp.cond (fun h => absurd h (by rw [Q0.rows_eq, Q5, Qm]; simp)) (fun _ => Stp.ret trivial)
theorem Qvn (l : List Q1) (i : Nat) (h : i < l.length) : Q1.szs (l.take (i + 1)) = Q1.szs (l.take i) + l[i].sz := by
 induction l generalizing i with
 | nil => simp at h
 | cons v l ih =>
  cases i with
  | zero => simp [Q1.szs]
  | succ i =>
   simp only [List.take_succ_cons, Q1.szs, List.getElem_cons_succ];rw [ih i (by simpa using h)]; omega
theorem szs_app (l : List Q1) (v : Q1) : Q1.szs (l ++ [v]) = Q1.szs l + v.sz := by
 induction l with
 | nil => simp [Q1.szs]
 | cons w l ih => simp only [Bl, Q1.szs, ih]; omega
theorem Qj0 : ∀ (k : Nat) (v : Q1), v.sz ≤ k → v.sz < 160000000 → TotP (fun N => Yh N v) (fun w => w.sz = v.sz)
 | 0, v, h, _ => by have := v.sz_eq; omega
 | k + 1, v, h, h2 => by
  have hs := v.sz_eq;have hl := Q1.szs_len v.Items
  have L3 : ∀ c, TotP (fun N => Xs (Yh N) N v c N 0 []) (fun w => w.sz = v.sz) := fun c => by
   refine Z1c (L := fun N n s a => Xs (Yh N) N v c n s a) v.Items.length (fun i l => l.length = i ∧ Q1.szs l = Q1.szs (v.Items.take i)) (fun i a hi hj => ?_) (fun a hj => ?_) [] ⟨rfl, rfl⟩
   ·show Stp _ _ _ (fun N n => cond (Q3 .lss (i : Int) ((Q1.rows v.Items).length : Int)) _ _);have hm := Q1.szs_mem _ _ (Mf hi);refine Stp.cond (fun _ => Stp.idx (Qw hi) (Stp.bind (f := fun N => Yh N v.Items[i]) (Qj0 k v.Items[i] (by omega) (by omega)) (fun w hw => Stp.chk (by rw [Lk]; omega) ?_))) (fun h => absurd h (by rw [Q1.rows_eq, Q5, Qm]; simp [hi]));rw [w64 _ (by omega)];exact Stp.go (L := fun N n (p : Int × List Q1) => Xs (Yh N) N v c n p.1 p.2) (_, _) ⟨by simp only; omega, by simp [hj.1], by rw [szs_app, Qvn _ _ hi, hj.2, hw]⟩
   show Stp _ _ _ (fun N n => cond (Q3 .lss (v.Items.length : Int) ((Q1.rows v.Items).length : Int)) _ _);refine Stp.cond (fun h => absurd h (by rw [Q1.rows_eq, Q5, Qm]; simp)) (fun _ => Stp.ret ?_);rw [Q1.sz_eq, hs]; simp only; rw [hj.2, Ba]
  refine TotP.succ (g := fun N => Q0f (Yh N) N v) (fun N => rfl) ?_;unfold Q0f Vs Vr Xo
  repeat' first | exact L3 _ | refine TotP.cond (fun _ => ?_) (fun _ => ?_)
theorem Qq5 : ∀ (k : Nat) (v : Q1), v.sz ≤ k → v.sz < 160000000 → TotP (fun N => Xi N v) (fun f => Dp k f)
 | 0, v, h, _ => by have := v.sz_eq; omega
 | k + 1, v, h, h2 => by
  have hs := v.sz_eq;have hl := Q1.szs_len v.Items;refine TotP.succ (g := fun N => Yl (Xi N) N v N 0 []) (fun N => rfl) ?_;refine Z1c (L := fun N n s a => Yl (Xi N) N v n s a) v.Items.length (fun i l => l.length = i ∧ ∀ x ∈ l, Dp k x) (fun i a hi hj => ?_) (fun a hj => ?_) [] ⟨rfl, by simp⟩
  ·show Stp _ _ _ (fun N n => cond (Q3 .lss (i : Int) ((Q1.rows v.Items).length : Int)) _ _);have hm := Q1.szs_mem _ _ (Mf hi);refine Stp.cond (fun _ => Stp.idx (Qw hi) (Stp.bind (f := fun N => Xi N v.Items[i]) (Qq5 k v.Items[i] (by omega) (by omega)) (fun w hw => Stp.chk (by rw [Lk]; omega) ?_))) (fun h => absurd h (by rw [Q1.rows_eq, Q5, Qm]; simp [hi]));rw [w64 _ (by omega)];refine Stp.go (L := fun N n (p : Int × List Q0) => Yl (Xi N) N v n p.1 p.2) (_, _) ⟨by simp only; omega, by simp [hj.1], fun x hx => ?_⟩
   rcases Mj.1 hx with hx | hx
   ·exact hj.2 x hx
   rw [List.mem_singleton.1 hx]; exact hw
  show Stp _ _ _ (fun N n => cond (Q3 .lss (v.Items.length : Int) ((Q1.rows v.Items).length : Int)) _ _);refine Stp.cond (fun h => absurd h (by rw [Q1.rows_eq, Q5, Qm]; simp)) (fun _ => Stp.fin ?_);have hd : ∀ c n, Dp (k + 1) (⟨v, a, c, n⟩ : Q0) := fun c n => ⟨by show a.length < _; omega, hj.2⟩
  repeat' first | exact TotP.ret (hd _ _) | refine TotP.cond (fun _ => ?_) (fun _ => ?_) | refine TotP.bind (Qkt _ a (by omega)) (fun _ _ => ?_) | refine TotP.bind (Qek (k + 1) _ (hd _ _)).1 (fun _ _ => ?_) | refine TotP.bind (Qsh (k + 1) _ (hd _ _)) (fun _ _ => ?_)
end
end Go.Av
namespace Go.Av
noncomputable section
theorem Qm2 (v : Q1) : Any (fun N => V6 N v) := by
 unfold V6
 repeat' first | exact TotP.ret trivial | refine TotP.cond (fun _ => ?_) (fun _ => ?_)
theorem Qkf : ∀ (k : Nat) (a b : Q1), a.sz ≤ k → a.sz < 160000000 → Any (fun N => Y1 N a b)
 | 0, a, b, h, _ => by have := a.sz_eq; omega
 | k + 1, a, b, h, h2 => by
  have hs := a.sz_eq;have hl := Q1.szs_len a.Items;refine TotP.succ (g := fun N => Q1s (Y1 N) N a b) (fun N => rfl) ?_;refine TotP.cond (fun _ => .ret trivial) (fun _ => TotP.cond (fun _ => .ret trivial) (fun _ => TotP.cond (fun _ => .ret trivial) (fun he => ?_)))
  have he : a.Items.length = b.Items.length := by
   rw [Q1.rows_eq, Q1.rows_eq, Q5, Q5, Q1x] at he;have := of_decide_eq_false he; omega
  have st : ∀ i (hi : i < a.Items.length) (hb : i < b.Items.length), Any (fun N => Y1 N a.Items[i] b.Items[i]) := fun i hi hb => by
   have hm := Q1.szs_mem _ _ (Mf hi);exact Qkf k a.Items[i] _ (by omega) (by omega)
  refine TotP.cond (fun _ => TotP.bind (Qm2 a) (fun _ _ => TotP.cond (fun _ => TotP.bind (Qm2 b) (fun _ _ => TotP.cond (fun _ => .ret trivial) (fun _ => ?_))) (fun _ => .ret trivial))) (fun _ => ?_)
  ·refine Q3y (L := fun N n s => Xz (Y1 N) N a b n s) a.Items.length (fun _ => True) (fun i hi _ => ?_) (fun _ => ?_) trivial
   ·show Stp _ _ _ (fun N n => cond (Q3 .lss (i : Int) ((Q1.rows a.Items).length : Int)) _ _);have := st i hi (by omega);refine Stp.cond (fun _ => Stp.idx (Qw hi) (Stp.idx (Qw (by omega)) (Stp.bind (f := fun N => Y1 N a.Items[i] b.Items[i]) this (fun _ _ => Stp.cond (fun _ => Stp.ret trivial) (fun _ => ?_))))) (fun _ => Stp.ret trivial);rw [w64 _ (by omega)];exact Stp.go (L := fun N n s => Xz (Y1 N) N a b n s) _ ⟨by omega, trivial⟩
   show Stp _ _ _ (fun N n => cond (Q3 .lss (a.Items.length : Int) ((Q1.rows a.Items).length : Int)) _ _);exact Stp.cond (fun h => absurd h (by rw [Q1.rows_eq, Q5, Qm]; simp)) (fun _ => Stp.ret trivial)
  refine Q3y (L := fun N n s => W5 (Y1 N) N a b n s) a.Items.length (fun _ => True) (fun i hi _ => ?_) (fun _ => ?_) trivial
  ·show Stp _ _ _ (fun N n => cond (Q3 .lss (i : Int) ((Q1.rows a.Items).length : Int)) _ _);have := st i hi (by omega);refine Stp.cond (fun _ => Stp.idx (Qw hi) (Stp.idx (Qw (by omega)) (Stp.bind (f := fun N => Y1 N a.Items[i] b.Items[i]) this (fun _ _ => Stp.cond (fun _ => Stp.ret trivial) (fun _ => ?_))))) (fun _ => Stp.ret trivial);rw [w64 _ (by omega)];exact Stp.go (L := fun N n s => W5 (Y1 N) N a b n s) _ ⟨by omega, trivial⟩
  show Stp _ _ _ (fun N n => cond (Q3 .lss (a.Items.length : Int) ((Q1.rows a.Items).length : Int)) _ _);exact Stp.cond (fun h => absurd h (by rw [Q1.rows_eq, Q5, Qm]; simp)) (fun _ => Stp.ret trivial)
theorem Qrz (v : Q1) (h2 : v.sz < 160000000) : Any (fun N => Q2v N v) := by
 have hs := v.sz_eq;have hl := Q1.szs_len v.Items;refine TotP.cond (fun _ => .ret trivial) (fun _ => ?_);refine Q8b (L := fun N n s => Xq N v n s) (fun s => ∃ i : Nat, s = (i : Int) ∧ i ≤ v.Items.length + 2) (fun s => v.Items.length + 2 - s.toNat) ?_ 2 ⟨2, rfl, by omega⟩
 rintro s ⟨i, rfl, hi⟩
 show Stp _ _ _ (fun N n => cond (Q3 .lss (i : Int) ((Q1.rows v.Items).length : Int)) _ _);refine Stp.cond (fun h => ?_) (fun _ => Stp.ret trivial)
 have hi : i < v.Items.length := by rw [Q1.rows_eq, Q5, Qm] at h; have := of_decide_eq_true h; omega
 refine Z28 (L := fun N k0 n s => Vw N k0 v (i : Int) n s) (O := fun N n s => Xq N v n s) (fun s => ∃ j : Nat, s = (j : Int) ∧ j ≤ i + 2) (fun s => i + 2 - s.toNat) ?_ 0 ⟨0, rfl, by omega⟩
 rintro s ⟨j, rfl, hj⟩
 by_cases h : j < i
 ·have e : Q3 .lss (j : Int) (i : Int) = true := by rw [Qm]; exact decide_eq_true (by omega)
  have hm := Q1.szs_mem _ _ (Mf hi);obtain ⟨r, _, N0, hr⟩ := Qkf v.Items[i].sz v.Items[i] (v.Items[j]'(by omega)) (Ln _) (by omega)
  cases r with
  | true =>
   refine .inl ⟨16, N0, trivial, fun N n k0 hN => ?_⟩;show cond (Q3 .lss (j : Int) (i : Int)) _ _ = _;have hr := hr N hN
   simp only at hr
   rw [e, Qw hi, Qw (show j < v.Items.length by omega)];simp only [cond_true, Lg, hr]
  | false =>
   refine .inr (.inr ⟨((j + 2 : Nat) : Int), N0, ⟨⟨j + 2, rfl, by omega⟩, by simp only [Lt]; omega⟩, fun N n k0 hN => ?_⟩);show cond (Q3 .lss (j : Int) (i : Int)) _ _ = _;have hr := hr N hN
   simp only at hr
   rw [e, Qw hi, Qw (show j < v.Items.length by omega), w64 _ (by omega)];simp only [cond_true, cond_false, Lg, hr]; rfl
 have e : Q3 .lss (j : Int) (i : Int) = false := by rw [Qm]; exact decide_eq_false (by omega)
 refine .inr (.inl ⟨((i + 2 : Nat) : Int), ⟨⟨i + 2, rfl, by omega⟩, by simp only [Lt]; omega⟩, fun N n k0 => ?_⟩);show cond (Q3 .lss (j : Int) (i : Int)) _ _ = _;rw [e];show k0 (IntKind.wrap .i64 ((i : Int) + 2)) = _;rw [w64 _ (by omega)]; rfl
theorem Qhh : ∀ (k : Nat) (v : Q1) (m : Int), v.sz ≤ k → v.sz < 160000000 → Any (fun N => Zm N v m)
 | 0, v, _, h, _ => by have := v.sz_eq; omega
 | k + 1, v, m, h, h2 => by
  have hs := v.sz_eq;have hl := Q1.szs_len v.Items
  have hh : Any (fun N => Jm N v) := by
   unfold Jm
   repeat' first | exact TotP.ret trivial | refine TotP.cond (fun _ => ?_) (fun _ => ?_)
  refine TotP.succ (g := fun N => Gr (Zm N) N v m) (fun N => rfl) ?_;refine TotP.cond (fun _ => .ret trivial) (fun _ => TotP.cond (fun _ => .ret trivial) (fun _ => TotP.cond (fun _ => TotP.bind (Qld v) (fun _ _ => .ret trivial)) (fun _ => TotP.cond (fun _ => .ret trivial) (fun _ => TotP.bind hh (fun _ _ => TotP.cond (fun _ => .ret trivial) (fun _ => TotP.cond (fun _ => .ret trivial) (fun _ => ?_)))))));refine Q3y (L := fun N n s => Y3 (Zm N) N v m n s) v.Items.length (fun _ => True) (fun i hi _ => ?_) (fun _ => ?_) trivial
  ·show Stp _ _ _ (fun N n => cond (Q3 .lss (i : Int) ((Q1.rows v.Items).length : Int)) _ _);have hm := Q1.szs_mem _ _ (Mf hi);have g : ∀ m', Any (fun N => Zm N v.Items[i] m') := fun m' => Qhh k v.Items[i] m' (by omega) (by omega);refine Stp.cond (fun _ => Stp.idx (Qw hi) ?_) (fun h => absurd h (by rw [Q1.rows_eq, Q5, Qm]; simp [hi]));rw [w64 ((i : Int) + 1) (by omega)];refine Stp.cond (fun _ => Stp.cond (fun _ => Stp.ret trivial) (fun _ => ?_)) (fun _ => ?_)
   ·exact Stp.bind (f := fun N => Zm N v.Items[i] (IntKind.wrap .i64 (m - 1))) (g _) (fun _ _ => Stp.cond (fun _ => Stp.ret trivial) (fun _ => Stp.go (L := fun N n s => Y3 (Zm N) N v m n s) _ ⟨by omega, trivial⟩))
   exact Stp.bind (f := fun N => Zm N v.Items[i] (IntKind.wrap .i64 (m - 1))) (g _) (fun _ _ => Stp.cond (fun _ => Stp.ret trivial) (fun _ => Stp.go (L := fun N n s => Y3 (Zm N) N v m n s) _ ⟨by omega, trivial⟩))
  show Stp _ _ _ (fun N n => cond (Q3 .lss (v.Items.length : Int) ((Q1.rows v.Items).length : Int)) _ _);exact Stp.cond (fun h => absurd h (by rw [Q1.rows_eq, Q5, Qm]; simp)) (fun _ => Stp.fin (TotP.bind (Qrz v h2) (fun _ _ => .ret trivial)))
theorem Qox (v : Q1) (m : Int) (h : v.sz < 160000000) : Any (fun N => J1 N v m) := by
 refine TotP.bind (V := fun _ => True) ?_ (fun _ _ => TotP.cond (fun _ => .ret trivial) (fun _ => TotP.bind (Qhh v.sz v m (Ln _) h) (fun _ _ => .ret trivial)));exact TotP.cond (fun _ => .ret trivial) (fun _ => .ret trivial)
theorem Qvo (v : Q1) (m : Int) (h : v.sz < 160000000) : Any (fun N => Gy N v m) :=
 TotP.bind (Qox v m h) (fun _ _ => TotP.cond (fun _ => .ret trivial) (fun _ => TotP.bind (Qj0 v.sz v (Ln _) h) (fun w hw => TotP.bind (Qq5 v.sz w (by omega) (by omega)) (fun f hf => TotP.bind (Qpt f) (fun c _ => TotP.bind ((Qek _ f hf).2 c) (fun _ _ => .ret trivial))))))
theorem Qtl (f : Yj) (h : Q1.szs f.Values < 160000000) : Any (fun N => Q2w N f) := by
 have hl := Q1.szs_len f.Values;refine Z1c (L := fun N n s a => Wp N f n s a) f.Values.length (fun i l => l.length = i) (fun i a hi hj => ?_) (fun a _ => ?_) [] rfl
 ·show Stp _ _ _ (fun N n => cond (Q3 .lss (i : Int) ((Q1.rows f.Values).length : Int)) _ _);have hm := Q1.szs_mem _ _ (Mf hi);refine Stp.cond (fun _ => Stp.idx (Qw hi) (Stp.bind (f := fun N => Yh N f.Values[i]) (Qj0 f.Values[i].sz f.Values[i] (Ln _) (by omega)) (fun w hw => Stp.chk (by rw [Lk]; omega) ?_))) (fun _ => Stp.ret trivial);rw [w64 _ (by omega)];exact Stp.go (L := fun N n (p : Int × List Q1) => Wp N f n p.1 p.2) (_, _) ⟨by simp only; omega, by simp [hj]⟩
 show Stp _ _ _ (fun N n => cond (Q3 .lss (f.Values.length : Int) ((Q1.rows f.Values).length : Int)) _ _);exact Stp.cond (fun h => absurd h (by rw [Q1.rows_eq, Q5, Qm]; simp)) (fun _ => Stp.ret trivial)
theorem Qrt (f : Yj) (l : Y5) (h : Q1.szs f.Values < 160000000) : Any (fun N => Q1t N f l) := by
 have hl := Q1.szs_len f.Values
 have one : ∀ i (hi : i < f.Values.length), f.Values[i].sz < 160000000 := fun i hi => by have hm := Q1.szs_mem _ _ (Mf hi); omega
 have L1 : ∀ c, Any (fun N => Xa N f l N c 0) := fun c => by
  refine Z1c (L := fun N n s a => Xa N f l n a s) f.Values.length (fun _ _ => True) (fun i a hi _ => ?_) (fun a _ => ?_) c trivial
  ·show Stp _ _ _ (fun N n => cond (Q3 .lss (i : Int) ((Q1.rows f.Values).length : Int)) _ _);refine Stp.cond (fun _ => Stp.idx (Qw hi) (Stp.bind (f := fun N => Gy N f.Values[i] l.MaxDepth) (Qvo _ _ (one i hi)) (fun w hw => ?_))) (fun h => absurd h (by rw [Q1.rows_eq, Q5, Qm]; simp [hi]));rw [w64 ((i : Int) + 1) (by omega)];exact Stp.go (L := fun N n (p : Int × Int) => Xa N f l n p.2 p.1) (_, _) ⟨by simp only; omega, trivial⟩
  show Stp _ _ _ (fun N n => cond (Q3 .lss (f.Values.length : Int) ((Q1.rows f.Values).length : Int)) _ _);exact Stp.cond (fun h => absurd h (by rw [Q1.rows_eq, Q5, Qm]; simp)) (fun _ => Stp.cond (fun _ => Stp.ret trivial) (fun _ => Stp.ret trivial))
 have hr : Any (fun N => Gc N l) := by
  unfold Gc
  repeat' first | exact TotP.ret trivial | refine TotP.cond (fun _ => ?_) (fun _ => ?_)
 refine TotP.bind hr (fun _ _ => TotP.cond (fun _ => .ret trivial) (fun _ => TotP.bind (V := fun _ => True) (TotP.cond (fun _ => .ret trivial) (fun _ => .ret trivial)) (fun _ _ => ?_)));refine TotP.cond (fun _ => .ret trivial) (fun _ => TotP.cond (fun _ => .ret trivial) (fun _ => TotP.cond (fun _ => .ret trivial) (fun _ => TotP.cond (fun _ => .ret trivial) (fun _ => TotP.cond (fun _ => .ret trivial) (fun _ => TotP.cond (fun _ => .ret trivial) (fun _ => ?_))))));refine Q3y (L := fun N n s => W2 N f l n s) f.Values.length (fun _ => True) (fun i hi _ => ?_) (fun _ => ?_) trivial
 ·show Stp _ _ _ (fun N n => cond (Q3 .lss (i : Int) ((Q1.rows f.Values).length : Int)) _ _);refine Stp.cond (fun _ => Stp.idx (Qw hi) (Stp.bind (f := fun N => J1 N f.Values[i] l.MaxDepth) (Qox _ _ (one i hi)) (fun _ _ => Stp.cond (fun _ => Stp.ret trivial) (fun _ => ?_)))) (fun h => absurd h (by rw [Q1.rows_eq, Q5, Qm]; simp [hi]));rw [w64 _ (by omega)];exact Stp.go (L := fun N n s => W2 N f l n s) _ ⟨by omega, trivial⟩
 show Stp _ _ _ (fun N n => cond (Q3 .lss (f.Values.length : Int) ((Q1.rows f.Values).length : Int)) _ _);exact Stp.cond (fun h => absurd h (by rw [Q1.rows_eq, Q5, Qm]; simp)) (fun _ => Stp.fin (L1 _))
end
end Go.Av
namespace Go.Av
noncomputable section
def sh1 (e : Qv) : Qv := ⟨e.Proto, e.Kind, [], [], 0, false, false, 0, [], 0, [], 0, e.Packet, (⟨0, (⟨false, 0, false, false, false, 0⟩ : Xx), 0, 0, 0, false, 0, 0, 0, [], []⟩ : Q14), (⟨0, 0, [], []⟩ : Yj)⟩
def sh3 (e : Qv) : Qv := ⟨e.Proto, e.Kind, [], [], 0, false, false, 0, [], 0, e.Hops, 0, (⟨0, false, false, 0, 0, [], [], false, 0, [], false, [], false, [], false, (⟨[], [], 0, false, []⟩ : Q10), false, 0, [], [], []⟩ : Qa), e.Msg, (⟨0, 0, [], []⟩ : Yj)⟩
def sh4 (e : Qv) : Qv := ⟨e.Proto, e.Kind, [], [], 0, false, false, 0, [], 0, [], 0, (⟨0, false, false, 0, 0, [], [], false, 0, [], false, [], false, [], false, (⟨[], [], 0, false, []⟩ : Q10), false, 0, [], [], []⟩ : Qa), (⟨0, (⟨false, 0, false, false, false, 0⟩ : Xx), 0, 0, 0, false, 0, 0, 0, [], []⟩ : Q14), e.Frame⟩
structure Oth (e : Qv) (c : Int) : Prop where
 a : e.Proto = 1 ∨ e.Proto = 2 → (c = 0 → sh1 e = e) ∧ (sh1 e ≠ e → c = 2) ∧ (e.Packet.Kind = 0 → c ≠ 0)
 b : e.Proto = 3 → (c = 0 → sh3 e = e) ∧ (sh3 e ≠ e → c = 2)
 d : e.Proto = 4 → (c = 0 → sh4 e = e) ∧ (sh4 e ≠ e → c = 2)
 f : c = 0 → e.Proto = 1 ∨ e.Proto = 2 ∨ e.Proto = 3 ∨ e.Proto = 4
theorem Z3f : Z3o (⟨0, false, false, 0, 0, [], [], false, 0, [], false, [], false, [], false, (⟨[], [], 0, false, []⟩ : Q10), false, 0, [], [], []⟩ : Qa) := ⟨Mo _, Mo _, Mo _, Mo _⟩
theorem Zei : Q1.szs ([] : List Q1) < 700000000 := by decide
theorem Qu9 {p : Qa} (h : Qvb p) (v : Int) : TotP (fun N => Ua N v p) (fun r => p.Kind = 0 → r ≠ 0) := by
 by_cases k : p.Kind = 0
 ·exact (Qsk v k).mono fun _ h _ => h
 exact (Qvs h v).mono fun _ _ h => absurd h k
theorem Qra (e : Qv) (l : Y5) (h : LE e) : TotP (fun N => Q3a N e l) (Oth e) := by
 have hm : 30 ≤ maxLen := by unfold maxLen; decide
 unfold Q3a;simp only [Q1b]
 have one : ∀ v : Int, (e.Proto = 1 ∨ e.Proto = 2) → TotP (fun N => (J6 N (sh1 e) e).bind fun v2 => cond (!v2) (some 2) (cond (decide (e.Packet.Kind = 3)) (some 2) ((Ua N v e.Packet).bind fun v6 => some v6))) (Oth e) := by
  intro v hp;have two : (sh1 e ≠ e ∨ e.Packet.Kind = 3) → Oth e 2 := fun _ => ⟨fun _ => ⟨fun h => absurd h (by decide), fun _ => rfl, fun _ => by decide⟩, fun _ => by omega, fun _ => by omega, fun h => absurd h (by decide)⟩;refine TotP.bind (Q7r (sh1 e) e ⟨Mo _, Mo _, h.pk.l, Zei⟩) (fun w hw => ?_);refine TotP.cond (fun g => .ret (two (.inl (fun q => by rw [hw.2 q] at g; cases g)))) (fun g => ?_);have hs := hw.1 (by simpa using g);refine TotP.cond (fun g => .ret (two (.inr (of_decide_eq_true g)))) (fun _ => ?_);exact TotP.bind (Qu9 h.pk v) (fun c hc => .ret ⟨fun _ => ⟨fun _ => hs, fun q => absurd hs q, hc⟩, fun _ => by omega, fun _ => by omega, fun _ => by omega⟩)
 refine TotP.cond (fun g => one 4 (.inl (of_decide_eq_true g))) (fun n1 => ?_);refine TotP.cond (fun g => one 5 (.inr (of_decide_eq_true g))) (fun n2 => ?_);have n1 := of_decide_eq_false n1; have n2 := of_decide_eq_false n2;refine TotP.cond (fun g => ?_) (fun n3 => ?_)
 ·have hp := of_decide_eq_true g;have two : Oth e 2 := ⟨fun _ => by omega, fun _ => ⟨fun h => absurd h (by decide), fun _ => rfl⟩, fun _ => by omega, fun h => absurd h (by decide)⟩;refine TotP.bind (Q7r (sh3 e) e ⟨Mo _, Mv h.dg.hops hm, Z3f, Zei⟩) (fun w hw => ?_);refine TotP.cond (fun _ => .ret two) (fun g => ?_);have hs := hw.1 (by simpa using g);refine TotP.cond (fun _ => .ret two) (fun _ => ?_);exact TotP.bind (Qlh h.dg l) (fun c _ => .ret ⟨fun _ => by omega, fun _ => ⟨fun _ => hs, fun q => absurd hs q⟩, fun _ => by omega, fun _ => by omega⟩)
 have n3 := of_decide_eq_false n3;refine TotP.cond (fun g => ?_) (fun n4 => .ret ⟨fun _ => by omega, fun _ => by omega, fun _ => ⟨fun h => absurd h (by decide), fun _ => rfl⟩, fun h => absurd h (by decide)⟩);have hp := of_decide_eq_true g;have two : Oth e 2 := ⟨fun _ => by omega, fun _ => by omega, fun _ => ⟨fun h => absurd h (by decide), fun _ => rfl⟩, fun h => absurd h (by decide)⟩;have hz : Q1.szs e.Frame.Values < 700000000 := Nat.lt_trans h.fb.sz (by decide);refine TotP.bind (Q7r (sh4 e) e ⟨Mo _, Mo _, Z3f, hz⟩) (fun w hw => ?_);refine TotP.cond (fun _ => .ret two) (fun g => ?_);have hs := hw.1 (by simpa using g);refine TotP.bind (Qtl e.Frame h.fb.sz) (fun v hv => ?_);refine TotP.bind (f := fun N => Xw N e.Frame v) (V := fun _ => True) ⟨_, trivial, 800000000, fun N hN => Qgq hN _ _ hz⟩ (fun u _ => ?_);refine TotP.cond (fun _ => .ret two) (fun _ => ?_);exact TotP.bind (Qrt e.Frame l h.fb.sz) (fun c _ => .ret ⟨fun _ => by omega, fun _ => by omega, fun _ => ⟨fun _ => hs, fun q => absurd hs q⟩, fun _ => by omega⟩)
structure At (e : Qv) (l : Y5) (t b r : Bool) (v : Int) : Prop where
 t : Tot (fun N => Xf N e) t
 b : Tot (fun N => Ud N e) b
 v : Tot (fun N => Zl N 3 e.Props) v
 r : Tot (fun N => Q0w N l) r
theorem Qr6 (e : Qv) (h : LE e) : Any (fun N => Xf N e) := by
 have hm := ml2; have ht := h.topic;have hs : Any (fun N => Q35 N e.Topic) := Qkx _ (by omega);have hw : ∀ l, Any (fun N => Vk N (⟨e.Hops, (⟨23, (⟨false, 0, false, false, false, 0⟩ : Xx), 0, 0, 0, false, 0, 0, 0, [], []⟩ : Q14)⟩ : Wd) l) := fun l => Qlh (d := ⟨e.Hops, (⟨23, (⟨false, 0, false, false, false, 0⟩ : Xx), 0, 0, 0, false, 0, 0, 0, [], []⟩ : Q14)⟩) ⟨h.dg.hops, h.dg.node, ⟨Mo _, Mo _⟩⟩ l;unfold Xf;refine TotP.bind (V := fun _ => True) ⟨_, trivial, .of fun N => Q92 N _ _ _⟩ (fun _ _ => ?_);refine TotP.cond (fun _ => .ret trivial) (fun _ => ?_);refine TotP.bind hs (fun _ _ => ?_);refine TotP.cond (fun _ => TotP.cond (fun _ => .ret trivial) (fun _ => ?_)) (fun _ => ?_)
 ·refine TotP.bindE (.of fun _ => rfl) ?_;exact TotP.bind (hw _) (fun _ _ => .ret trivial)
 refine TotP.bindE (.of fun _ => rfl) ?_;exact TotP.bind (hw _) (fun _ _ => .ret trivial)
theorem Qtu (e : Qv) (h : LE e) : Any (fun N => Ud N e) := by
 have h1 := Q9i h.pk (⟨0, false, false, 0, 0, [], [], false, 0, [], false, [], false, [], false, (⟨[], [], 0, false, []⟩ : Q10), false, 0, [], [], []⟩ : Qa);have h2 : Any (fun N => Xw N e.Frame (⟨0, 0, [], []⟩ : Yj)) := ⟨_, trivial, 800000000, fun N hN => Qgq hN _ _ (Nat.lt_trans h.fb.sz (by decide))⟩;unfold Ud;refine TotP.bind h1 (fun _ _ => ?_);refine TotP.cond (fun _ => ?_) (fun _ => .ret trivial);refine TotP.cond (fun _ => ?_) (fun _ => .ret trivial);exact TotP.bind h2 (fun _ _ => .ret trivial)
theorem Qqc (l : Y5) : Any (fun N => Q0w N l) := by
 unfold Q0w
 repeat' first
  | exact TotP.ret trivial
  | refine TotP.cond (fun _ => ?_) (fun _ => ?_)
theorem Z41 (e : Qv) (l : Y5) (h : LE e) : ∃ t b r v, At e l t b r v := by
 obtain ⟨t, _, ht⟩ := Qr6 e h;obtain ⟨b, _, hb⟩ := Qtu e h;obtain ⟨v, _, hv⟩ := Q9f 3 e.Props h.props;obtain ⟨r, _, hr⟩ := Qqc l;exact ⟨t, b, r, v, ht, hb, hv, hr⟩
def cq (e : Qv) : Bool := cond (decide (e.QoS = 1)) true (decide (e.QoS = 2))
structure Ck (e : Qv) (l : Y5) (t b r : Bool) (v c : Int) : Prop where
 zero : c = 0 → r = true
 pub0 : e.Kind = 1 → c = 0 → Qgz e.Topic = true ∧ v = 0 ∧ PubT e (cq e) t b ∧ (e.Payload.length : Int) ≤ l.MaxPacket
 pub1 : e.Kind = 1 → r = true → Qgz e.Topic = true → v = 0 → PubT e (cq e) t b → (e.Payload.length : Int) ≤ l.MaxPacket → c = 0
 pub2 : e.Kind = 1 → r = true → Qgz e.Topic = true → ¬ PubT e (cq e) t b → c = 2
 oth : e.Kind = 2 → r = true → Oth e c
 no : c = 0 → e.Kind = 1 ∨ e.Kind = 2
theorem Qus {N : Nat} {e : Qv} {t b w : Bool} {v : Int} (hn : Z5 N e.Topic = some w) (ht : Xf N e = some t) (hb : Ud N e = some b) (hv : Zl N 3 e.Props = some v) (c : Bool) (h : w = false ∨ v ≠ 0) :
  Lv (Z0 N e c) False := by
 simp only [Z0, Xn, Yw, Xr, Xm, Xp, Qet, hn, ht, hb, hv, Q92, Lg, Q1x]
 rcases h with rfl | h
 ·refine Lv.cond (Lv.no (by decide)) (Lv.cond (Lv.no (by decide)) ?_);exact Lv.no (by decide)
 have d : decide (v ≠ 0) = true := decide_eq_true h;simp only [d, cond_true]
 repeat' first | exact Lv.no (by decide) | refine Lv.cond ?_ ?_
theorem Qbj (N : Nat) (e : Qv) : Wi N e = Z0 N e (cq e) := by
 unfold Wi cq;rw [Q1b, Q1b];cases decide (e.QoS = 1) <;> rfl
theorem Quj {e : Qv} {w t b : Bool} {v : Int} {N1 N2 N3 N4 : Nat} (hn : ∀ N, N1 ≤ N → Z5 N e.Topic = some w) (ht : ∀ N, N2 ≤ N → Xf N e = some t) (hb : ∀ N, N3 ≤ N → Ud N e = some b) (hv : ∀ N, N4 ≤ N → Zl N 3 e.Props = some v) :
  ∃ p N0, ∀ N, N0 ≤ N → Wi N e = some p := by
 have hN : Tot (fun N => Z5 N e.Topic) w := ⟨N1, hn⟩;have hT : Tot (fun N => Xf N e) t := ⟨N2, ht⟩;have hB : Tot (fun N => Ud N e) b := ⟨N3, hb⟩;have hV : Tot (fun N => Zl N 3 e.Props) v := ⟨N4, hv⟩
 have j : ∀ c, Any (fun N => Z0 N e c) := fun c => by
  unfold Z0 Xn Yw Xr Xm Xp;simp only [Qet, Q92, Lg];refine TotP.cond (fun _ => .ret trivial) (fun _ => TotP.cond (fun _ => .ret trivial) (fun _ => ?_));refine TotP.bindE hN ?_
  repeat' first
   | exact TotP.ret trivial
   | refine TotP.cond (fun _ => ?_) (fun _ => ?_)
   | refine TotP.bindE hT ?_
   | refine TotP.bindE hB ?_
   | refine TotP.bindE hV ?_
 have : Any (fun N => Wi N e) := by
  unfold Wi;exact TotP.cond (fun _ => j _) (fun _ => j _)
 obtain ⟨p, _, N0, hp⟩ := this;exact ⟨p, N0, hp⟩
theorem Qi3 {e : Qv} {l : Y5} {t b r : Bool} {v : Int} (h : LE e) (a : At e l t b r v) : TotP (fun N => Ja N e l) (Ck e l t b r v) := by
 have hm := ml2; have hT := h.topic;obtain ⟨N1, hn⟩ := Q7j e.Topic (by omega);obtain ⟨N2, ht⟩ := a.t;obtain ⟨N3, hb⟩ := a.b;obtain ⟨N4, hv⟩ := a.v;unfold Ja;refine TotP.bindE a.r ?_;simp only [Q1b, Q1x, Q3h];refine TotP.cond (fun g => .ret ?_) (fun g => ?_)
 ·have g : r = false := by simpa using g
  subst g;exact ⟨fun h => absurd h (by decide), fun _ h => absurd h (by decide), fun _ h => absurd h (by decide), fun _ h => absurd h (by decide), fun _ h => absurd h (by decide), fun h => absurd h (by decide)⟩
 have hr : r = true := by simpa using g
 refine TotP.cond (fun k => ?_) (fun k => ?_)
 ·have k := of_decide_eq_true k
  have key : ∃ p N0, (∀ N, N0 ≤ N → Wi N e = some p) ∧ (p = 0 → Qgz e.Topic = true ∧ v = 0 ∧ PubT e (cq e) t b) ∧ (Qgz e.Topic = true → v = 0 → PubT e (cq e) t b → p = 0) ∧ (Qgz e.Topic = true → ¬ PubT e (cq e) t b → p = 2) := by
   by_cases x1 : Qgz e.Topic = true
   ·by_cases x2 : PubT e (cq e) t b
    ·by_cases x3 : v = 0
     ·exact ⟨0, max (max N1 N2) (max N3 N4), fun N hN => by rw [Qbj]; exact Qxp ((hn N (by omega)).trans (by rw [x1])) (ht N (by omega)) (hb N (by omega)) (hv N (by omega)) _ x2 x3, fun _ => ⟨x1, x3, x2⟩, fun _ _ _ => rfl, fun _ q => absurd x2 q⟩
     have g0 : ∀ N, max (max N1 N2) (max N3 N4) ≤ N → Lv (Z0 N e (cq e)) False := fun N hN => Qus (hn N (by omega)) (ht N (by omega)) (hb N (by omega)) (hv N (by omega)) _ (.inr x3);have g1 := Quj hn ht hb hv;obtain ⟨p, N0, hp⟩ := g1;obtain ⟨q, hq1, hq2⟩ := g0 (max N0 (max (max N1 N2) (max N3 N4))) (by omega);rw [← Qbj, hp _ (by omega)] at hq1;have : p ≠ 0 := fun z => hq2 (by have := Option.some.inj hq1; omega);exact ⟨p, N0, hp, fun z => absurd z this, fun _ z => absurd z x3, fun _ z => absurd x2 z⟩
    exact ⟨2, max (max N1 N2) (max N3 N4), fun N hN => by rw [Qbj]; exact Z06 ((hn N (by omega)).trans (by rw [x1])) (ht N (by omega)) (hb N (by omega)) (hv N (by omega)) _ x2, fun z => absurd z (by decide), fun _ _ z => absurd z x2, fun _ _ => rfl⟩
   have g0 : ∀ N, max (max N1 N2) (max N3 N4) ≤ N → Lv (Z0 N e (cq e)) False := fun N hN => Qus (hn N (by omega)) (ht N (by omega)) (hb N (by omega)) (hv N (by omega)) _ (.inl (by simpa using x1));have g1 := Quj hn ht hb hv;obtain ⟨p, N0, hp⟩ := g1;obtain ⟨q, hq1, hq2⟩ := g0 (max N0 (max (max N1 N2) (max N3 N4))) (by omega);rw [← Qbj, hp _ (by omega)] at hq1;have : p ≠ 0 := fun z => hq2 (by have := Option.some.inj hq1; omega);exact ⟨p, N0, hp, fun z => absurd z this, fun z => absurd z x1, fun z => absurd z x1⟩
  obtain ⟨p, N0, hp, f0, f1, f2⟩ := key;refine TotP.bindE ⟨N0, hp⟩ ?_;refine TotP.cond (fun g => .ret ?_) (fun g => ?_)
  ·have g := of_decide_eq_true g;exact ⟨fun h => absurd h g, fun _ h => absurd h g, fun _ _ a b c _ => f1 a b c, fun _ _ a b => f2 a b, fun h => by omega, fun h => absurd h g⟩
  have g := f0 (by have := of_decide_eq_false g; omega);refine TotP.cond (fun m => .ret ?_) (fun m => .ret ?_)
  ·have m := of_decide_eq_true m;exact ⟨fun h => absurd h (by decide), fun _ h => absurd h (by decide), fun _ _ _ _ _ _ => by omega, fun _ _ _ z => absurd g.2.2 z, fun h => by omega, fun h => absurd h (by decide)⟩
  have m := of_decide_eq_false m;exact ⟨fun _ => hr, fun _ _ => ⟨g.1, g.2.1, g.2.2, by omega⟩, fun _ _ _ _ _ _ => rfl, fun _ _ _ z => absurd g.2.2 z, fun h => by omega, fun _ => .inl k⟩
 have k := of_decide_eq_false k;refine TotP.cond (fun k2 => ?_) (fun k2 => .ret ⟨fun h => absurd h (by decide), fun h => absurd h k, fun h => absurd h k, fun h => absurd h k, fun h => absurd h (of_decide_eq_false k2), fun h => absurd h (by decide)⟩);have k2 := of_decide_eq_true k2;exact TotP.bind (Qra e l h) (fun c hc => .ret ⟨fun _ => hr, fun h => absurd h k, fun h => absurd h k, fun h => absurd h k, fun _ _ => hc, fun _ => .inr k2⟩)
end
end Go.Av
namespace Go.Av
noncomputable section
theorem Z40 {e : Qv} (h : Qen e) : OkE e := ⟨h.Topic_ok, h.Props_ok.1, h.Packet_ok.Filters_ok.1, h.Packet_ok.Props_ok.1, h.Packet_ok.Will_ok.Props_ok.1⟩
def Qee (e : Qv) (p : Int) : Qv := ⟨p, e.Kind, e.Topic, e.Payload, e.QoS, e.Retain, e.Dup, e.ID, e.Props, e.Type', e.Hops, e.Channel, e.Packet, e.Msg, e.Frame⟩
theorem Z0e {e : Qv} (h : LE e) (p : Int) : LE (Qee e p) := ⟨h.topic, h.payload, h.props, h.pk, h.dg, h.fb⟩
theorem Qzu {e : Qv} {l : Y5} {t b r : Bool} {v : Int} (a : At e l t b r v) (p : Int) : At (Qee e p) l t b r v := ⟨a.t, a.b, a.v, a.r⟩
theorem Z0r (n : Int) : TotP (fun N => Jc N n 4) (fun q => 0 ≤ q ∧ q ≤ 3) := by
 have hb : -3 ≤ n.tmod 4 ∧ n.tmod 4 ≤ 3 := by
  by_cases h : 0 ≤ n
  ·rw [Bo h]; omega
  have : n = -(-n) := by omega
  rw [this, Int.neg_tmod, Bo (by omega)]; omega
 unfold Jc;simp only [Qm];refine TotP.cond (fun h => absurd (of_decide_eq_true h) (by decide)) (fun _ => ?_);refine TotP.chk rfl ?_;refine TotP.cond (fun h => ?_) (fun h => ?_)
 ·have h := of_decide_eq_true h;rw [w64 _ (by omega)];exact .ret (by omega)
 have h := of_decide_eq_false h;exact .ret (by omega)
theorem Z42 (M : Nat) : Vk (M + 40) ⟨[], (⟨23, (⟨false, 0, false, false, false, 0⟩ : Xx), 0, 0, 0, false, 0, 0, 0, [], []⟩ : Q14)⟩ ⟨1048576, 32⟩ = some 0 := by rfl
theorem Z2r {e : Qv} {t : Bool} (L : LE e) (h : Tot (fun N => Xf N e) t) (h1 : e.Type' = 0) (h2 : e.Hops.length = 0) : t = true := by
 have hm := ml2; have hT := L.topic;have hh : e.Hops = [] := Nm.1 h2;obtain ⟨s, _, hs⟩ := Qkx e.Topic (by omega)
 have key : TotP (fun N => Xf N e) (· = true) := by
  unfold Xf;rw [h1, hh];refine TotP.bindE (.of fun N => Q92 N _ _ _) ?_;refine TotP.cond (fun h => absurd h (by decide)) (fun _ => ?_);refine TotP.bindE hs ?_;rw [Q1b];refine TotP.cond (fun h => absurd (of_decide_eq_true h) (by decide)) (fun _ => ?_);refine TotP.bindE (f := fun N => Gd N) (v := (⟨1048576, 32⟩ : Y5)) (.of fun _ => rfl) ?_;exact TotP.bindE (v := 0) ⟨40, fun N hN => by obtain ⟨M, rfl⟩ : ∃ M, N = M + 40 := ⟨N - 40, by omega⟩; exact Z42 M⟩ (.ret rfl)
 obtain ⟨N1, h⟩ := h;obtain ⟨u, rfl, N2, g⟩ := key;have a := h (max N1 N2) (by omega); have b := g (max N1 N2) (by omega);exact Option.some.inj (a.symm.trans b)
theorem Qtv {e : Qv} (O : Oth e 0) : e.Props.length = 0 ∧ e.Channel = 0 ∧ e.Type' = 0 ∧ e.QoS = 0 ∧ (e.Proto ≠ 3 → e.Hops.length = 0) ∧ (3 ≤ e.Proto → e.Packet.Kind = 0) := by
 have f1 : sh1 e = e → e.Props.length = 0 ∧ e.Channel = 0 ∧ e.Type' = 0 ∧ e.QoS = 0 ∧ e.Hops.length = 0 := fun h => ⟨by rw [← h]; rfl, by rw [← h]; rfl, by rw [← h]; rfl, by rw [← h]; rfl, by rw [← h]; rfl⟩;have f3 : sh3 e = e → e.Props.length = 0 ∧ e.Channel = 0 ∧ e.Type' = 0 ∧ e.QoS = 0 ∧ e.Packet.Kind = 0 := fun h => ⟨by rw [← h]; rfl, by rw [← h]; rfl, by rw [← h]; rfl, by rw [← h]; rfl, by rw [← h]; rfl⟩;have f4 : sh4 e = e → e.Props.length = 0 ∧ e.Channel = 0 ∧ e.Type' = 0 ∧ e.QoS = 0 ∧ e.Hops.length = 0 ∧ e.Packet.Kind = 0 := fun h => ⟨by rw [← h]; rfl, by rw [← h]; rfl, by rw [← h]; rfl, by rw [← h]; rfl, by rw [← h]; rfl, by rw [← h]; rfl⟩;have hk := O.f rfl
 by_cases p : e.Proto = 1 ∨ e.Proto = 2
 ·have := f1 ((O.a p).1 rfl);exact ⟨this.1, this.2.1, this.2.2.1, this.2.2.2.1, fun _ => this.2.2.2.2, fun _ => by omega⟩
 by_cases p3 : e.Proto = 3
 ·have := f3 ((O.b p3).1 rfl);exact ⟨this.1, this.2.1, this.2.2.1, this.2.2.2.1, fun h => absurd p3 h, fun _ => this.2.2.2.2⟩
 have := f4 ((O.d (by omega)).1 rfl);exact ⟨this.1, this.2.1, this.2.2.1, this.2.2.2.1, fun _ => this.2.2.2.2.1, fun _ => this.2.2.2.2.2⟩
theorem Z4w (e : Qv) (pr : Int) (l : Y5) (he : Qen e) : ∃ N, W6 N e pr l = some true := by
 have key : TotP (fun N => W6 N e pr l) (· = true) := by
  unfold W6;refine TotP.bind (V := fun v => v = true → LE e) ?_ (fun v1 g1 => ?_)
  ·exact TotP.bind (Qx9 e (Z40 he) he.Frame_ok.Values_ok.2) (fun v h => .ret h)
  refine TotP.cond (fun _ => .ret rfl) (fun n1 => ?_);have L := g1 (by simpa using n1);obtain ⟨t, b, r, v, a⟩ := Z41 e l L;obtain ⟨c, C, hc⟩ := Qi3 L a;refine TotP.bindE hc ?_;rw [Q1x];refine TotP.cond (fun _ => .ret rfl) (fun z => ?_)
  have z : c = 0 := by have := of_decide_eq_false z; omega
  subst z;refine TotP.bindE (Qvc e L) ?_;refine TotP.bind (Z0r pr) (fun q hq => ?_);have e1 : IntKind.wrap .i64 (1 + q) = 1 + q := w64 _ (by omega);rw [e1];have hr := C.zero rfl
  by_cases own : 1 + q = e.Proto
  ·have hx : Qee e (1 + q) = e := by rw [own]; rfl
   refine TotP.bindE (f := fun N => Ja N (Qee e (1 + q)) l) (v := 0) (by rw [hx]; exact hc) ?_;simp only [Q1b];exact TotP.cond (fun _ => .ret rfl) (fun g => absurd own (of_decide_eq_false g))
  refine TotP.bind (f := fun N => Ja N (Qee e (1 + q)) l) (Qi3 (Z0e L _) (Qzu a _)) (fun d D => ?_);simp only [Q1b, Q3h, Q1x, Qm, Q1z, Q5];have hk := C.no rfl;have K1 : e.Kind = 1 → PubT e (cq e) t b := fun k => (C.pub0 k rfl).2.2.1;have K2 : e.Kind = 2 → _ := fun k => Qtv (C.oth k hr);have X1 : e.Kind = 1 → ¬ PubT (Qee e (1 + q)) (cq e) t b → d = 2 := fun k => D.pub2 k hr (C.pub0 k rfl).1;have X0 : e.Kind = 1 → PubT (Qee e (1 + q)) (cq e) t b → d = 0 := fun k T => D.pub1 k hr (C.pub0 k rfl).1 (C.pub0 k rfl).2.1 T (C.pub0 k rfl).2.2.2;have X2 : e.Kind = 2 → Oth (Qee e (1 + q)) d := fun k => D.oth k hr;have hP : (Qee e (1 + q)).Proto = 1 + q := rfl;refine TotP.cond (fun g => absurd (of_decide_eq_true g) own) (fun _ => ?_);refine TotP.cond (fun g => .ret (decide_eq_true ?_)) (fun g1 => ?_)
  ·have g := of_decide_eq_true g
   rcases hk with k | k
   ·refine X1 k (fun T => ?_);have A : e.Proto = 2 := (K1 k).props (by omega);have B : 1 + q = 2 := T.props (show 0 < e.Props.length by omega);omega
   have := (K2 k).1; omega
  have g1 := of_decide_eq_false g1;refine TotP.cond (fun g => .ret (decide_eq_true ?_)) (fun g2 => ?_)
  ·have g := of_decide_eq_true g
   rcases hk with k | k
   ·refine X1 k (fun T => ?_);have A : e.Proto ≠ 3 → e.Type' = 0 ∧ e.Hops.length = 0 := (K1 k).ty2;have B : 1 + q ≠ 3 → e.Type' = 0 ∧ e.Hops.length = 0 := T.ty2;omega
   have A := (K2 k).2.2.2.2.1;have O := X2 k
   by_cases p : 1 + q = 1 ∨ 1 + q = 2
   ·refine (O.a p).2.1 (fun h => ?_)
    have : e.Hops.length = 0 := by
     have : (Qee e (1 + q)).Hops = [] := by rw [← h]; rfl
     exact Nm.2 this
    omega
   refine (O.d (show 1 + q = 4 by omega)).2 (fun h => ?_)
   have : e.Hops.length = 0 := by
    have : (Qee e (1 + q)).Hops = [] := by rw [← h]; rfl
    exact Nm.2 this
   omega
  have g2 := of_decide_eq_false g2;refine TotP.cond (fun g => .ret (decide_eq_true ?_)) (fun g3 => ?_)
  ·have g := of_decide_eq_true g
   rcases hk with k | k
   ·refine X1 k (fun T => ?_);have A := (K1 k).ch4 g;have B : 1 + q = 4 := T.ch4 g;omega
   exact absurd (K2 k).2.1 g
  have g3 := of_decide_eq_false g3;refine TotP.cond (fun g => .ret (decide_eq_true ?_)) (fun g4 => ?_)
  ·have g := of_decide_eq_true g
   rcases hk with k | k
   ·refine X1 k (fun T => ?_);have A : e.Proto ≠ 3 → e.Type' = 0 ∧ e.Hops.length = 0 := (K1 k).ty2;have B : 1 + q ≠ 3 → e.Type' = 0 ∧ e.Hops.length = 0 := T.ty2;omega
   exact absurd (K2 k).2.2.1 g
  have g4 := of_decide_eq_false g4;refine TotP.cond (fun g => .ret (decide_eq_true ?_)) (fun g5 => ?_)
  ·have g := of_decide_eq_true g
   rcases hk with k | k
   ·refine X1 k (fun T => ?_);have A := (K1 k).qos;have B : (0 ≤ e.QoS ∧ e.QoS ≤ 2) ∨ (1 + q = 3 ∧ e.QoS = -1) := T.qos;omega
   have := (K2 k).2.2.2.1; omega
  have g5 := of_decide_eq_false g5
  have hp0 : e.Props.length = 0 := by omega
  have hh0 : e.Hops.length = 0 := by omega
  have hc0 : e.Channel = 0 := by omega
  have ht0 : e.Type' = 0 := by omega
  refine TotP.cond (fun k => ?_) (fun k => ?_)
  ·have k := of_decide_eq_true k;have P := K1 k
   by_cases T : PubT (Qee e (1 + q)) (cq e) t b
   ·have d0 := X0 k T;subst d0;exact .ret rfl
   have d2 := X1 k T;subst d2
   have hq0 : e.Dup = true ∧ e.QoS = 0 := by
    refine Lx fun nd => T ?_;have A := P.qos;refine ⟨(show 1 + q = 1 ∨ 1 + q = 2 ∨ 1 + q = 3 ∨ 1 + q = 4 by omega), k, .inl (show 0 ≤ e.QoS ∧ e.QoS ≤ 2 by omega), P.id, P.cid, fun hd => ?_, fun h => absurd (show 0 < e.Props.length from h) (by omega), fun _ => Z2r L a.t ht0 hh0, fun _ => ⟨ht0, hh0⟩, P.ch, fun h => absurd hc0 h, P.bare⟩;have hd : e.Dup = true := hd
    have : e.QoS = 1 ∨ e.QoS = 2 := by
     have : e.QoS ≠ 0 := fun z => nd ⟨hd, z⟩;omega
    left;unfold cq
    rcases this with h | h <;> rw [h] <;> rfl
   rw [hq0.1, hq0.2];exact .ret rfl
  have k := of_decide_eq_false k
  have k2 : e.Kind = 2 := by omega
  have O := X2 k2;have kf := (K2 k2).2.2.2.2.2;have kn : e.Proto = 1 ∨ e.Proto = 2 ∨ e.Proto = 3 ∨ e.Proto = 4 := (C.oth k2 hr).f rfl;refine TotP.cond (fun m => ?_) (fun m => ?_)
  ·refine TotP.cond (fun _ => .ret rfl) (fun m2 => ?_);have m2 := of_decide_eq_false m2;refine TotP.cond (fun _ => .ret rfl) (fun _ => ?_);refine TotP.cond (fun _ => .ret rfl) (fun m3 => .ret (decide_eq_true ?_));have m3 := of_decide_eq_false m3;omega
  have m := of_decide_eq_false m;refine TotP.cond (fun _ => .ret rfl) (fun m2 => ?_);have m2 := of_decide_eq_false m2;refine TotP.cond (fun _ => .ret rfl) (fun m3 => .ret (decide_eq_true ?_));have m3 := of_decide_eq_false m3;refine Lx fun n3 => m2 ?_;exact (O.a (show 1 + q = 1 ∨ 1 + q = 2 by omega)).2.2 (kf (by omega))
 obtain ⟨v, rfl, N, h⟩ := key;exact ⟨N, h N (Ln N)⟩
end
end Go.Av
