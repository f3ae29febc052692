/- Part of the proof of FrommqttOwn: for every input the law returns true; no condition. -/
import Derived.Test.YtpmcdjbdijjgkaaGreatDoorAvOwn
import Derived.Test.YtpmcdjbdijjgkaaGreatDoorRound
import Derived.Test.YtpmcdjbdijjgkaaGreatDoorLiftF2
import Derived.Test.YtpmcdjbdijjgkaaGreatDoorPlainb
open Go.IntKind (wrap)
namespace Go.Av
noncomputable section
section
variable {R A S T : Type}
def Tot (f : Nat → Option R) (r : R) : Prop := ∃ N0, ∀ N, N0 ≤ N → f N = some r
def TotP (f : Nat → Option R) (Q : R → Prop) : Prop := ∃ r, Q r ∧ Tot f r
theorem Tot.of {f : Nat → Option R} {r : R} (h : ∀ N, f N = some r) : Tot f r := ⟨0, fun N _ => h N⟩
theorem Tot.ret (r : R) : Tot (fun _ => some r) r := .of fun _ => rfl
theorem Tot.bind {f : Nat → Option A} {g : Nat → A → Option R} {v : A} {r : R} (h1 : Tot f v) (h2 : Tot (fun N => g N v) r) : Tot (fun N => (f N).bind (g N)) r := by
 obtain ⟨a, ha⟩ := h1;obtain ⟨b, hb⟩ := h2;exact ⟨max a b, fun N hN => by show (f N).bind (g N) = _; rw [ha N (by omega)]; exact hb N (by omega)⟩
theorem TotP.of {f : Nat → Option R} {r : R} {Q : R → Prop} (hq : Q r) (h : Tot f r) : TotP f Q := ⟨r, hq, h⟩
theorem TotP.ret {r : R} {Q : R → Prop} (h : Q r) : TotP (fun _ => some r) Q := ⟨r, h, .ret r⟩
theorem TotP.mono {f : Nat → Option R} {Q Q' : R → Prop} (h : TotP f Q) (hq : ∀ r, Q r → Q' r) : TotP f Q' := by
 obtain ⟨r, h1, h2⟩ := h; exact ⟨r, hq r h1, h2⟩
theorem TotP.tot {f : Nat → Option R} {r : R} (h : TotP f (· = r)) : Tot f r := by obtain ⟨x, rfl, h2⟩ := h; exact h2
theorem TotP.bind {f : Nat → Option A} {g : Nat → A → Option R} {V : A → Prop} {Q : R → Prop} (h1 : TotP f V) (h2 : ∀ v, V v → TotP (fun N => g N v) Q) : TotP (fun N => (f N).bind (g N)) Q := by
 obtain ⟨v, hv, t⟩ := h1;obtain ⟨r, hr, u⟩ := h2 v hv;exact ⟨r, hr, t.bind u⟩
theorem TotP.bindE {f : Nat → Option A} {g : Nat → A → Option R} {v : A} {Q : R → Prop} (h1 : Tot f v) (h2 : TotP (fun N => g N v) Q) : TotP (fun N => (f N).bind (g N)) Q := by
 obtain ⟨r, hr, u⟩ := h2;exact ⟨r, hr, h1.bind u⟩
theorem TotP.cond {b : Bool} {f g : Nat → Option R} {Q : R → Prop} (h1 : b = true → TotP f Q) (h2 : b = false → TotP g Q) : TotP (fun N => cond b (f N) (g N)) Q := by
 cases b
 ·exact h2 rfl
 exact h1 rfl
theorem TotP.chk {b : Bool} {f : Nat → Option R} {Q : R → Prop} (hb : b = true) (h : TotP f Q) : TotP (fun N => _root_.cond b (f N) none) Q := by subst hb; exact h
theorem TotP.idx {l : List T} {i : Int} {y : T} {g : Nat → T → Option R} {Q : R → Prop} (h : idx l i = some y) (h2 : TotP (fun N => g N y) Q) : TotP (fun N => (Go.Av.idx l i).bind (g N)) Q :=
 .bindE (.of fun _ => h) h2
theorem TotP.optC {o : Option T} {f : Nat → T → Option R} {z : Nat → Option R} {Q : R → Prop} (h1 : ∀ v, o = some v → TotP (fun N => f N v) Q) (h2 : o = none → TotP z Q) : TotP (fun N => Go.Av.optC o (f N) (z N)) Q := by
 cases o with
 | none => exact h2 rfl
 | some v => exact h1 v rfl
def Stp (L : Nat → Nat → S → Option R) (P : S → Prop) (Q : R → Prop) (f : Nat → Nat → Option R) : Prop :=
 (∃ r N0, Q r ∧ ∀ N n, N0 ≤ N → f N n = some r) ∨ ∃ s N0, P s ∧ ∀ N n, N0 ≤ N → f N n = L N n s
section
variable {L : Nat → Nat → S → Option R} {P : S → Prop} {Q : R → Prop}
theorem Stp.fin {f : Nat → Option R} (h : TotP f Q) : Stp L P Q (fun N _ => f N) := by
 obtain ⟨r, h1, N0, h2⟩ := h; exact .inl ⟨r, N0, h1, fun N _ hN => h2 N hN⟩
theorem Stp.ret {r : R} (h : Q r) : Stp L P Q (fun _ _ => some r) := .inl ⟨r, 0, h, fun _ _ _ => rfl⟩
theorem Stp.go (s : S) (h : P s) : Stp L P Q (fun N n => L N n s) := .inr ⟨s, 0, h, fun _ _ _ => rfl⟩
theorem Stp.bind {f : Nat → Option A} {g : Nat → Nat → A → Option R} {V : A → Prop} (h1 : TotP f V) (h2 : ∀ v, V v → Stp L P Q (fun N n => g N n v)) : Stp L P Q (fun N n => (f N).bind (g N n)) := by
 obtain ⟨v, hv, a, ha⟩ := h1
 rcases h2 v hv with ⟨r, b, hr, hb⟩ | ⟨s, b, hs, hb⟩
 ·exact .inl ⟨r, max a b, hr, fun N n hN => by show (f N).bind _ = _; rw [ha N (by omega)]; exact hb N n (by omega)⟩
 exact .inr ⟨s, max a b, hs, fun N n hN => by show (f N).bind _ = _; rw [ha N (by omega)]; exact hb N n (by omega)⟩
theorem Stp.idx {l : List T} {i : Int} {y : T} {g : Nat → Nat → T → Option R} (h : idx l i = some y) (h2 : Stp L P Q (fun N n => g N n y)) : Stp L P Q (fun N n => (Go.Av.idx l i).bind (g N n)) :=
 .bind (f := fun _ => Go.Av.idx l i) (V := (· = y)) ⟨y, rfl, .of fun _ => h⟩ (fun v hv => by subst hv; exact h2)
theorem Stp.cond {b : Bool} {f g : Nat → Nat → Option R} (h1 : b = true → Stp L P Q f) (h2 : b = false → Stp L P Q g) : Stp L P Q (fun N n => cond b (f N n) (g N n)) := by
 cases b
 ·exact h2 rfl
 exact h1 rfl
theorem Stp.chk {b : Bool} {f : Nat → Nat → Option R} (hb : b = true) (h : Stp L P Q f) : Stp L P Q (fun N n => _root_.cond b (f N n) none) := by subst hb; exact h
theorem Q9n (inv : S → Prop) (μ : S → Nat) (Qh : ∀ s, inv s → Stp L (fun s' => inv s' ∧ μ s' < μ s) Q (fun N n => L N (n + 1) s)) (s : S) (h : inv s) : TotP (fun N => L N N s) Q := by
 have key : ∀ (m : Nat) (s : S), μ s < m → inv s → ∃ r N0, Q r ∧ ∀ N n, N0 ≤ N → N0 ≤ n → L N n s = some r := by
  intro m
  induction m with
  | zero => intro s h; omega
  | succ m ih =>
   intro s hm hi
   rcases Qh s hi with ⟨r, N0, hr, hL⟩ | ⟨s', N0, ⟨h1, h2⟩, hL⟩
   ·refine ⟨r, N0 + 1, hr, fun N n h1 h2 => ?_⟩;obtain ⟨k, rfl⟩ : ∃ k, n = k + 1 := ⟨n - 1, by omega⟩;exact hL N k (by omega)
   obtain ⟨r, M0, hr, hM⟩ := ih s' (by omega) h1;refine ⟨r, max N0 M0 + 1, hr, fun N n h1 h2 => ?_⟩;obtain ⟨k, rfl⟩ : ∃ k, n = k + 1 := ⟨n - 1, by omega⟩;exact (hL N k (by omega)).trans (hM N k (by omega) (by omega))
 obtain ⟨r, N0, hr, hL⟩ := key (μ s + 1) s (by omega) h;exact ⟨r, hr, N0, fun N hN => hL N N hN hN⟩
end
theorem Q5l {L : Nat → Nat → Int → Option R} {Q : R → Prop} (m : Nat) (J : Nat → Prop) (Qh : ∀ i, i < m → J i → Stp L (fun s => s = ((i + 1 : Nat) : Int) ∧ J (i + 1)) Q (fun N n => L N (n + 1) (i : Int)))
  (fin : J m → Stp L (fun _ => False) Q (fun N n => L N (n + 1) (m : Int))) (h0 : J 0) : TotP (fun N => L N N 0) Q := by
 refine Q9n (S := Int) (fun s => ∃ i : Nat, s = (i : Int) ∧ i ≤ m ∧ J i) (fun s => m - s.toNat) ?_ 0 ⟨0, rfl, Mh _, h0⟩
 rintro s ⟨i, rfl, hi, hj⟩
 by_cases h : i < m
 ·rcases Qh i h hj with ⟨r, N0, hr, hL⟩ | ⟨s', N0, ⟨rfl, h2⟩, hL⟩
  ·exact .inl ⟨r, N0, hr, hL⟩
  exact .inr ⟨_, N0, ⟨⟨i + 1, rfl, h, h2⟩, by simp only [Mk]; omega⟩, hL⟩
 have : i = m := by omega
 subst this
 rcases fin hj with ⟨r, N0, hr, hL⟩ | ⟨s', N0, h2, hL⟩
 ·exact .inl ⟨r, N0, hr, hL⟩
 exact h2.elim
end
theorem Zf (x y : Int) : Q7 .lss x y = decide (x < y) := rfl
theorem Q1y (x y : Int) : Q7 .leq x y = decide (x ≤ y) := rfl
theorem Qbo (x y : Int) : Q7 .gtr x y = decide (x > y) := rfl
theorem Q13 (x y : Int) : Q7 .geq x y = decide (x ≥ y) := rfl
theorem Q5z (x y : Int) : Q7 .eql x y = decide (x = y) := by unfold Q7; by_cases h : x = y <;> simp [h]
theorem Q11 (x y : Int) : Q7 .neq x y = decide (x ≠ y) := by unfold Q7; by_cases h : x = y <;> simp [h]
theorem w64 (x : Int) (h : -9223372036854775808 ≤ x ∧ x ≤ 9223372036854775807) : wrap .i64 x = x := IntWalk.i64_in x h
theorem Ze {T : Type} {l : List T} {i : Nat} (h : i < l.length) : idx l (i : Int) = some l[i] := Ld h
theorem Q5k : maxLen ≤ 9223372036854775807 := by unfold maxLen; decide
end
end Go.Av
namespace Go.Av
noncomputable section
def at8 (s : List UInt8) (i : Nat) : Nat := (s.getD i 0).toNat
theorem Qfy (s : List UInt8) (i : Nat) : at8 s i < 256 := UInt8.toNat_lt _
theorem Q8l {s : List UInt8} {i : Nat} (h : i < s.length) : at8 s i = (s[i]).toNat := by simp [at8, h]
def goes (s : List UInt8) (i : Nat) : Prop := i < s.length ∧ 128 ≤ at8 s i ∧ at8 s i < 192
instance (s : List UInt8) (i : Nat) : Decidable (goes s i) := inferInstanceAs (Decidable (_ ∧ _))
def Qbd (c : Nat) : Prop := ¬ (55296 ≤ c ∧ c ≤ 57343) ∧ c ≤ 1114111
instance (c : Nat) : Decidable (Qbd c) := inferInstanceAs (Decidable (_ ∧ _))
def Q7o (s : List UInt8) (i : Nat) : Nat × Nat :=
 if at8 s i < 128 then (at8 s i, 1)
 else if 192 ≤ at8 s i ∧ at8 s i < 224 ∧ goes s (i + 1) ∧ 128 ≤ 64 * (at8 s i - 192) + (at8 s (i + 1) - 128) then (64 * (at8 s i - 192) + (at8 s (i + 1) - 128), 2)
 else if 224 ≤ at8 s i ∧ at8 s i < 240 ∧ goes s (i + 1) ∧ goes s (i + 2) ∧ 2048 ≤ 64 * (64 * (at8 s i - 224) + (at8 s (i + 1) - 128)) + (at8 s (i + 2) - 128) ∧ Qbd (64 * (64 * (at8 s i - 224) + (at8 s (i + 1) - 128)) + (at8 s (i + 2) - 128)) then
  (64 * (64 * (at8 s i - 224) + (at8 s (i + 1) - 128)) + (at8 s (i + 2) - 128), 3)
 else if 240 ≤ at8 s i ∧ at8 s i < 248 ∧ goes s (i + 1) ∧ goes s (i + 2) ∧ goes s (i + 3) ∧ 65536 ≤ 64 * (64 * (64 * (at8 s i - 240) + (at8 s (i + 1) - 128)) + (at8 s (i + 2) - 128)) + (at8 s (i + 3) - 128) ∧
   Qbd (64 * (64 * (64 * (at8 s i - 240) + (at8 s (i + 1) - 128)) + (at8 s (i + 2) - 128)) + (at8 s (i + 3) - 128)) then
  (64 * (64 * (64 * (at8 s i - 240) + (at8 s (i + 1) - 128)) + (at8 s (i + 2) - 128)) + (at8 s (i + 3) - 128), 4)
 else (65533, 1)
theorem Qby (c : Nat) : Utf8.valid (c : Int) = true ↔ Qbd c := by
 unfold Utf8.valid Qbd;simp only [La, Np, Nl, decide_eq_true_eq, decide_eq_false_iff_not];omega
theorem Qlx (a b c d : Nat) (G1 G2 G3 : Prop) [Decidable G1] [Decidable G2] [Decidable G3] (h0 : a < 256) (q1 : G1 → 128 ≤ b ∧ b < 192) (q2 : G2 → 128 ≤ c ∧ c < 192) (q3 : G3 → 128 ≤ d ∧ d < 192) :
  (if a < 128 then (a, 1)
   else if (a / 32 == 6 && decide G1) = true then (if a % 32 * 64 + b % 64 ≥ 128 then (a % 32 * 64 + b % 64, 2) else (65533, 1))
   else if (a / 16 == 14 && decide G1 && decide G2) = true then (if (decide (a % 16 * 4096 + b % 64 * 64 + c % 64 ≥ 2048) && Utf8.valid ((a % 16 * 4096 + b % 64 * 64 + c % 64 : Nat) : Int)) = true then (a % 16 * 4096 + b % 64 * 64 + c % 64, 3) else (65533, 1))
   else if (a / 8 == 30 && decide G1 && decide G2 && decide G3) = true then (if (decide (a % 8 * 262144 + b % 64 * 4096 + c % 64 * 64 + d % 64 ≥ 65536) && Utf8.valid ((a % 8 * 262144 + b % 64 * 4096 + c % 64 * 64 + d % 64 : Nat) : Int)) = true then (a % 8 * 262144 + b % 64 * 4096 + c % 64 * 64 + d % 64, 4) else (65533, 1))
   else (65533, 1)) =
  (if a < 128 then (a, 1)
   else if 192 ≤ a ∧ a < 224 ∧ G1 ∧ 128 ≤ 64 * (a - 192) + (b - 128) then (64 * (a - 192) + (b - 128), 2)
   else if 224 ≤ a ∧ a < 240 ∧ G1 ∧ G2 ∧ 2048 ≤ 64 * (64 * (a - 224) + (b - 128)) + (c - 128) ∧ Qbd (64 * (64 * (a - 224) + (b - 128)) + (c - 128)) then (64 * (64 * (a - 224) + (b - 128)) + (c - 128), 3)
   else if 240 ≤ a ∧ a < 248 ∧ G1 ∧ G2 ∧ G3 ∧ 65536 ≤ 64 * (64 * (64 * (a - 240) + (b - 128)) + (c - 128)) + (d - 128) ∧ Qbd (64 * (64 * (64 * (a - 240) + (b - 128)) + (c - 128)) + (d - 128)) then
    (64 * (64 * (64 * (a - 240) + (b - 128)) + (c - 128)) + (d - 128), 4)
   else (65533, 1)) := by
 simp only [La, decide_eq_true_eq, beq_iff_eq, Qby, ge_iff_le];have e2 : ∀ x, Qbd x = (¬ (55296 ≤ x ∧ x ≤ 57343) ∧ x ≤ 1114111) := fun x => rfl
 by_cases c1 : a < 128
 ·rw [if_pos c1, if_pos c1]
 rw [if_neg c1, if_neg c1]
 by_cases c2 : a < 192
 ·rw [if_neg (by omega), if_neg (by omega), if_neg (by omega), if_neg (by omega), if_neg (by omega), if_neg (by omega)]
 by_cases c3 : a < 224
 ·by_cases g1 : G1
  ·have := q1 g1
   have e : a % 32 * 64 + b % 64 = 64 * (a - 192) + (b - 128) := by omega
   rw [if_pos ⟨by omega, g1⟩, e]
   by_cases c4 : 128 ≤ 64 * (a - 192) + (b - 128)
   ·rw [if_pos c4, if_pos ⟨by omega, c3, g1, c4⟩]
   rw [if_neg c4, if_neg (fun h => c4 h.2.2.2), if_neg (by omega), if_neg (by omega)]
  rw [if_neg (fun h => g1 h.2), if_neg (by omega), if_neg (by omega), if_neg (fun h => g1 h.2.2.1), if_neg (by omega), if_neg (by omega)]
 rw [if_neg (by omega), if_neg (c := 192 ≤ a ∧ _) (by omega)]
 by_cases c5 : a < 240
 ·by_cases g : G1 ∧ G2
  ·have := q1 g.1;have := q2 g.2
   have e : a % 16 * 4096 + b % 64 * 64 + c % 64 = 64 * (64 * (a - 224) + (b - 128)) + (c - 128) := by omega
   rw [if_pos ⟨⟨by omega, g.1⟩, g.2⟩, e]
   by_cases c4 : 2048 ≤ 64 * (64 * (a - 224) + (b - 128)) + (c - 128) ∧ Qbd (64 * (64 * (a - 224) + (b - 128)) + (c - 128))
   ·rw [if_pos c4, if_pos ⟨by omega, c5, g.1, g.2, c4⟩]
   rw [if_neg c4, if_neg (fun h => c4 h.2.2.2.2), if_neg (by omega)]
  rw [if_neg (fun h => g ⟨h.1.2, h.2⟩), if_neg (by omega), if_neg (fun h => g ⟨h.2.2.1, h.2.2.2.1⟩), if_neg (by omega)]
 rw [if_neg (by omega), if_neg (c := 224 ≤ a ∧ _) (by omega)]
 by_cases c6 : a < 248
 ·by_cases g : G1 ∧ G2 ∧ G3
  ·have := q1 g.1;have := q2 g.2.1;have := q3 g.2.2
   have e : a % 8 * 262144 + b % 64 * 4096 + c % 64 * 64 + d % 64 = 64 * (64 * (64 * (a - 240) + (b - 128)) + (c - 128)) + (d - 128) := by omega
   rw [if_pos ⟨⟨⟨by omega, g.1⟩, g.2.1⟩, g.2.2⟩, e]
   by_cases c4 : 65536 ≤ 64 * (64 * (64 * (a - 240) + (b - 128)) + (c - 128)) + (d - 128) ∧ Qbd (64 * (64 * (64 * (a - 240) + (b - 128)) + (c - 128)) + (d - 128))
   ·rw [if_pos c4, if_pos ⟨by omega, c6, g.1, g.2.1, g.2.2, c4⟩]
   rw [if_neg c4, if_neg (fun h => c4 h.2.2.2.2.2)]
  rw [if_neg (fun h => g ⟨h.1.1.2, h.1.2, h.2⟩), if_neg (fun h => g ⟨h.2.2.1, h.2.2.2.1, h.2.2.2.2.1⟩)]
 rw [if_neg (by omega), if_neg (by omega)]
theorem Qoy (s : List UInt8) (j : Nat) : (decide (j < s.length) && (at8 s j / 64 == 2)) = decide (goes s j) := by
 have hk := Qfy s j
 by_cases hg : goes s j
 ·have h4 : at8 s j / 64 = 2 := by have := hg.2; omega
  simp [hg, hg.1, h4]
 simp only [hg, decide_false, Bool.and_eq_false_iff, decide_eq_false_iff_not]
 by_cases hl : j < s.length
 ·right;simp only [beq_eq_false_iff_ne, ne_eq]
  intro h4;exact hg ⟨hl, by omega, by omega⟩
 exact .inl hl
theorem Qfp (s : List UInt8) (i : Nat) : Q5w s i = Q7o s i := by
 have u : ∀ j, (s.getD j 0).toNat = at8 s j := fun _ => rfl;have := Qlx (at8 s i) (at8 s (i + 1)) (at8 s (i + 2)) (at8 s (i + 3)) (goes s (i + 1)) (goes s (i + 2)) (goes s (i + 3)) (Qfy _ _) (fun h => h.2) (fun h => h.2) (fun h => h.2);unfold Q7o;rw [← this];unfold Q5w;simp only [Ng, u, Qoy];rfl
theorem Qk0 (s : List UInt8) (i : Nat) (h : i < s.length) : 1 ≤ (Q7o s i).2 ∧ i + (Q7o s i).2 ≤ s.length ∧ ((Q7o s i).1 < 128 ↔ at8 s i < 128) ∧ (at8 s i < 128 → (Q7o s i).1 = at8 s i ∧ (Q7o s i).2 = 1) ∧
  (∀ k, 1 ≤ k → k < (Q7o s i).2 → 128 ≤ at8 s (i + k)) ∧ Qbd (Q7o s i).1 := by
 have h0 := Qfy s i;unfold Q7o;split
 ·refine ⟨by simp, by simp; omega, by simp, fun _ => ⟨rfl, rfl⟩, fun k h1 h2 => by simp at h2; omega, by unfold Qbd; simp; omega⟩
 split
 ·rename_i h1 h2;obtain ⟨_, _, g1, h3⟩ := h2;refine ⟨by simp, by simp; have := g1.1; omega, by simp; omega, fun h => by omega, fun k h4 h5 => ?_, by unfold Qbd; simp only; have := g1.2; omega⟩
  have : k = 1 := by simp at h5; omega
  subst this; exact g1.2.1
 split
 ·rename_i h1 h2 h3;obtain ⟨_, _, g1, g2, h3, h6⟩ := h3;refine ⟨by simp, by simp; have := g2.1; omega, by simp; omega, fun h => by omega, fun k h4 h5 => ?_, h6⟩
  have : k = 1 ∨ k = 2 := by simp at h5; omega
  rcases this with rfl | rfl
  ·exact g1.2.1
  exact g2.2.1
 split
 ·rename_i h1 h2 h3 h4;obtain ⟨_, _, g1, g2, g3, h3, h6⟩ := h4;refine ⟨by simp, by simp; have := g3.1; omega, by simp; omega, fun h => by omega, fun k h4 h5 => ?_, h6⟩
  have : k = 1 ∨ k = 2 ∨ k = 3 := by simp at h5; omega
  rcases this with rfl | rfl | rfl
  ·exact g1.2.1
  ·exact g2.2.1
  exact g3.2.1
 rename_i h1 h2 h3 h4;exact ⟨by simp, by simp; omega, by simp; omega, fun h => by omega, fun k h4 h5 => by simp at h5; omega, by unfold Qbd; simp⟩
def Qme (s : List UInt8) (i : Nat) : Prop := Q7o s i = (65533, 1)
instance (s : List UInt8) (i : Nat) : Decidable (Qme s i) := inferInstanceAs (Decidable (_ = _))
def Qkc (s : List UInt8) (pos : Nat) : Option Nat :=
 if h : pos < s.length then (if (Q7o s pos).1 = 0 ∨ Qme s pos then some pos else Qkc s (pos + (Q7o s pos).2)) else none
termination_by s.length - pos
decreasing_by have := (Qk0 s pos h).1; omega
end
end Go.Av
namespace Go.Av
noncomputable section
open Go.Proofs
theorem Qnf {b : UInt8} {n : Nat} (h : b.toNat = n) (hn : n < 256) : b = UInt8.ofNat n := by
 apply UInt8.toNat_inj.1; rw [h]; simp [UInt8.toNat_ofNat]; omega
theorem Qjw {s : List UInt8} {i : Nat} (hi : i < s.length) (hc : (Q7o s i).1 = 65533) : (3 ≤ (s.drop i).length ∧ (s.drop i).take 3 = [239, 191, 189]) ↔ ¬ Qme s i := by
 constructor
 ·rintro ⟨h1, h2⟩ hn
  have hl : i + 2 < s.length := by simp at h1; omega
  have g : ∀ k, k < 3 → s[i + k]? = ([239, 191, 189] : List UInt8)[k]? := by
   intro k hk;rw [← h2, Lt, if_pos hk, Lz]
  have a0 : at8 s i = 239 := by have := g 0 (by omega); simp at this; simp [at8, List.getD_eq_getElem?_getD, this]
  have a1 : at8 s (i + 1) = 191 := by have := g 1 (by omega); simp at this; simp [at8, List.getD_eq_getElem?_getD, this]
  have a2 : at8 s (i + 2) = 189 := by have := g 2 (by omega); simp at this; simp [at8, List.getD_eq_getElem?_getD, this]
  have g1 : goes s (i + 1) := ⟨by omega, by omega, by omega⟩;have g2 : goes s (i + 2) := ⟨by omega, by omega, by omega⟩;unfold Qme Q7o at hn;rw [a0, a1, a2] at hn;simp [g1, g2, Qbd] at hn
 intro hn;have h0 := Qfy s i;unfold Qme at hn;unfold Q7o at hn hc;split at hn
 ·rename_i h1; rw [if_pos h1] at hc; simp at hc; omega
 rename_i h1; rw [if_neg h1] at hc;split at hn
 ·rename_i h2;rw [if_pos h2] at hc;obtain ⟨_, _, g1, _⟩ := h2;have := g1.2; simp at hc; omega
 rename_i h2; rw [if_neg h2] at hc;split at hn
 ·rename_i h3;rw [if_pos h3] at hc;obtain ⟨_, _, g1, g2, _⟩ := h3;have b1 := g1.2;have b2 := g2.2;have l2 := g2.1
  simp only at hc
  have a0 : at8 s i = 239 := by omega
  have a1 : at8 s (i + 1) = 191 := by omega
  have a2 : at8 s (i + 2) = 189 := by omega
  rw [Q8l (by omega)] at a0 a1 a2;refine ⟨by simp; omega, ?_⟩;apply Mr;intro k;rw [Lt]
  by_cases hk : k < 3
  ·rw [if_pos hk, Lz]
   have : k = 0 ∨ k = 1 ∨ k = 2 := by omega
   rcases this with rfl | rfl | rfl
   ·rw [Ng, Ld (by omega), Qnf a0 (by omega)]; rfl
   ·rw [Ld (by omega), Qnf a1 (by omega)]; rfl
   rw [Ld (by omega), Qnf a2 (by omega)]; rfl
  rw [if_neg hk]; simp; omega
 rename_i h3; rw [if_neg h3] at hc;split at hn
 ·rename_i h4;rw [if_pos h4] at hc;obtain ⟨_, _, g1, g2, g3, h5, h6⟩ := h4
  simp only at hc
  omega
 exact absurd rfl hn
theorem Ql1 (N : Nat) (s : List UInt8) : Vu N s = some (decide (3 ≤ s.length ∧ s.take 3 = [239, 191, 189])) := by
 unfold Vu;rw [Q13]
 by_cases h : 3 ≤ s.length
 ·have h1 : decide ((s.length : Int) ≥ 3) = true := by simp; omega
  have h2 : (Nat.ble 0 3 && Nat.ble 3 s.length) = true := by simp [h]
  rw [h1, h2];simp only [cond_true, Nr, Gp]
  congr 1
  by_cases h3 : s.take 3 = [239, 191, 189] <;> simp [h, h3]
 have h1 : decide ((s.length : Int) ≥ 3) = false := by simp; omega
 rw [h1];simp [h]
def Qq8 (o : Option Nat) : Int := match o with
 | some p => p
 | none => -1
theorem Qob (s : List UInt8) : Tot (fun N => Gs N s) (Qq8 (Qkc s 0)) := by
 refine TotP.tot ?_;show TotP (fun N => Yl N s N 0) _;refine Q9n (L := fun N n (p : Nat) => Yl N s n p) (fun p => Qkc s p = Qkc s 0) (fun p => s.length - p) (fun p hp => ?_) 0 rfl;show Stp _ _ _ (fun N n => cond (Nat.blt p s.length) _ _);refine Stp.cond (fun h => ?_) (fun h => ?_)
 ·have hl : p < s.length := by simpa [Nat.blt_eq] using h
  rw [Qfp];have hw := Qk0 s p hl
  have hb : Qkc s p = (if (Q7o s p).1 = 0 ∨ Qme s p then some p else Qkc s (p + (Q7o s p).2)) := by rw [Qkc, dif_pos hl]
  rw [Q5z, Q5z];refine Stp.cond (fun h0 => ?_) (fun h0 => ?_)
  ·have h0 : (Q7o s p).1 = 0 := by simpa using h0
   refine Stp.ret ?_;rw [← hp, hb, if_pos (.inl h0)]; rfl
  have h0 : (Q7o s p).1 ≠ 0 := by simpa using h0
  refine Stp.cond (fun h1 => ?_) (fun h1 => ?_)
  ·have h1 : (Q7o s p).1 = 65533 := by have := of_decide_eq_true h1; omega
   refine Stp.chk (by simp; omega) ?_;rw [List.take_length];refine Stp.bind (V := (· = decide (3 ≤ (s.drop p).length ∧ (s.drop p).take 3 = [239, 191, 189]))) ⟨_, rfl, .of fun N => Ql1 N _⟩ ?_
   rintro v rfl
   have hwi := Qjw hl h1;refine Stp.cond (fun h2 => ?_) (fun h2 => ?_)
   ·have h2 : ¬ (3 ≤ (s.drop p).length ∧ (s.drop p).take 3 = [239, 191, 189]) := by
     have : (!decide (3 ≤ (s.drop p).length ∧ (s.drop p).take 3 = [239, 191, 189])) = true := h2;simpa only [Nl, decide_eq_false_iff_not] using this
    have h3 : Qme s p := Ma fun h => h2 (hwi.2 h);refine Stp.ret ?_;rw [← hp, hb, if_pos (.inr h3)]; rfl
   have h2 : (3 ≤ (s.drop p).length ∧ (s.drop p).take 3 = [239, 191, 189]) := by
    have : (!decide (3 ≤ (s.drop p).length ∧ (s.drop p).take 3 = [239, 191, 189])) = false := h2;simpa only [Bool.not_eq_false', decide_eq_true_eq] using this
   refine Stp.go (p + (Q7o s p).2) ⟨?_, by have := hw.1; have := hw.2.1; omega⟩;rw [← hp, hb, if_neg]
   rintro (h | h)
   ·exact h0 h
   exact hwi.1 h2 h
  have h1 : (Q7o s p).1 ≠ 65533 := by intro e; rw [e] at h1; simp at h1
  refine Stp.go (p + (Q7o s p).2) ⟨?_, by have := hw.1; have := hw.2.1; omega⟩;rw [← hp, hb, if_neg]
  rintro (h | h)
  ·exact h0 h
  unfold Qme at h; rw [h] at h1; exact h1 rfl
 have hl : ¬ p < s.length := fun hlt => by
  have h' : Nat.blt p s.length = true := by rw [Bh]; exact hlt
  rw [h'] at h; cases h
 refine Stp.ret ?_;rw [← hp, Qkc, dif_neg hl]; rfl
def Qc0 (s : List UInt8) : Bool := decide (s.length ≤ 65535) && (Qkc s 0).isNone
theorem Ql7 (o : Option Nat) : decide (Qq8 o = -1) = o.isNone := by
 cases o with
 | none => rfl
 | some p => simp [Qq8]
theorem Q2i (s : List UInt8) : Tot (fun N => Qx N s) (Qc0 s) := by
 refine TotP.tot ?_;show TotP (fun N => cond (Q7 .leq (s.length : Int) 65535) _ _) _;rw [Q1y];refine TotP.cond (fun h => ?_) (fun h => ?_)
 ·have h : s.length ≤ 65535 := by have := of_decide_eq_true h; omega
  refine TotP.bindE (Qob s) (.ret ?_);rw [Q5z, Ql7]; simp [Qc0, h]
 have h : ¬ s.length ≤ 65535 := by have := of_decide_eq_false h; omega
 exact .ret (by simp [Qc0, h])
end
end Go.Av
namespace Go.Av
noncomputable section
open Go.Proofs
theorem Qf9 (s : List UInt8) : Tot (fun N => G8 N s) (decide (s ≠ []) && Qc0 s) := by
 refine TotP.tot ?_;show TotP (fun N => cond (Gp .neq s []) _ _) _
 have e : Gp .neq s [] = decide (s ≠ []) := by cases s <;> rfl
 rw [e];refine TotP.cond (fun h => ?_) (fun h => ?_)
 ·exact .bindE (Q2i s) (.ret (by rw [h]; rfl))
 exact .ret (by rw [h]; rfl)
theorem Qin (c : UInt8) : ∀ (l : List UInt8) (i : Nat), (0 ≤ Qad l c i) ↔ c ∈ l
 | [], i => by simp [Qad]
 | b :: l, i => by
  unfold Qad
  by_cases h : b == c
  ·rw [if_pos h]; have := eq_of_beq h; subst this; simp
  rw [if_neg h, Qin c l (i + 1)];have : ¬ c = b := fun e => h (by simp [e]);simp [this]
theorem Qkz {c : Nat} (h : Qbd c) (h1 : 128 ≤ c) : ∃ l : List UInt8, (Utf8.encode (c : Int)).data.toList = l ∧ 2 ≤ l.length ∧ l.length ≤ 4 ∧ ∀ b ∈ l, 128 ≤ b.toNat := by
 have hv := (Qby c).2 h;unfold Utf8.encode;simp only [hv, if_true, Mk];have h2 := h.2
 have m : ∀ n, n < 256 → 128 ≤ n → 128 ≤ (UInt8.ofNat n).toNat := fun n a b => by rw [Bu]; omega
 rw [if_neg (by omega)];split
 ·refine ⟨_, rfl, by simp, by simp, fun b hb => ?_⟩;simp only [Ml, Bb, or_false] at hb
  rcases hb with rfl | rfl <;> exact m _ (by omega) (by omega)
 split
 ·refine ⟨_, rfl, by simp, by simp, fun b hb => ?_⟩;simp only [Ml, Bb, or_false] at hb
  rcases hb with rfl | rfl | rfl <;> exact m _ (by omega) (by omega)
 refine ⟨_, rfl, by simp, by simp, fun b hb => ?_⟩;simp only [Ml, Bb, or_false] at hb
 rcases hb with rfl | rfl | rfl | rfl <;> exact m _ (by omega) (by omega)
theorem Ql2 (M : Nat) : Z2 (M + 3) [43, 35] (M + 3) 0 = some (-1) := by
 have e1 : Q5w [43, 35] 0 = (43, 1) := by decide
 have e2 : Q5w [43, 35] (0 + 1) = (35, 1) := by decide
 have b0 : Nat.blt 0 ([43, 35] : List UInt8).length = true := rfl;have b1 : Nat.blt (0 + 1) ([43, 35] : List UInt8).length = true := rfl;have b2 : Nat.blt (0 + 1 + 1) ([43, 35] : List UInt8).length = false := rfl
 have c1 : Q7 .eql ((43 : Nat) : Int) 65533 = false := by decide
 have c2 : Q7 .eql ((35 : Nat) : Int) 65533 = false := by decide
 rw [Z2, e1, b0, cond_true, c1, cond_false, Z2, e2, b1, cond_true, c2, cond_false, Z2, b2, cond_false]
theorem Qmx {c : Nat} (hc : Qbd c) (N : Nat) : Y7 N (c : Int) = some true := by
 unfold Y7;simp only [Q1y, Zf];obtain ⟨k1, k2⟩ := hc;rw [decide_eq_true (show (0 : Int) ≤ (c : Int) by omega)]
 by_cases h5 : (c : Int) < 55296
 ·rw [decide_eq_true h5]; rfl
 have h6 : (57343 : Int) < (c : Int) := by omega
 have h7 : (c : Int) ≤ 1114111 := by omega
 rw [decide_eq_false h5, decide_eq_true h6, decide_eq_true h7]; rfl
theorem Qkr {c : Nat} (hc : Qbd c) (h : 128 ≤ c) (M : Nat) : Y3 (M + 1) [43, 35] (c : Int) (M + 1) = some (-1) := by
 obtain ⟨l, hl, l1, l2, l3⟩ := Qkz hc h;rw [Y3];simp only [hl, Zf, Q11]
 have ew : wrap .i64 ((l.length : Int) - 1) = ((l.length - 1 : Nat) : Int) := by rw [w64 _ (by omega)]; omega
 rw [ew]
 by_cases h2 : l.length = 2
 ·have e1 : ((l.length - 1 : Nat) : Int) = ((1 : Nat) : Int) := by rw [h2]
  rw [e1];have e2 : idx l ((1 : Nat) : Int) = some l[1] := Ze (by omega);have e3 := l3 l[1] (Mx _);generalize l[1] = y at e2 e3
  have e4 : decide (((35 : UInt8).toNat : Int) ≠ (y.toNat : Int)) = true := by
   have : (35 : UInt8).toNat = 35 := rfl;simp only [ne_eq, decide_eq_true_eq]; omega
  have e5 : idx ([43, 35] : List UInt8) ((1 : Nat) : Int) = some 35 := rfl
  have e6 : wrap .i64 (((1 : Nat) : Int) + 1) = 2 := by decide
  have e7 : decide (((1 : Nat) : Int) < ((([43, 35] : List UInt8).length : Nat) : Int)) = true := by decide
  have e8 : decide ((0 : Int) ≤ 2) = true := by decide
  rw [e7, cond_true, e5, Lj, e2, Lj, e4, cond_true, e6, e8, cond_true]
  have e9 : (Nat.ble (Int.toNat 2) ([43, 35] : List UInt8).length && Nat.ble ([43, 35] : List UInt8).length ([43, 35] : List UInt8).length) = true := by decide
  rw [e9, cond_true, Lj];rfl
 have e1 : decide (((l.length - 1 : Nat) : Int) < ((([43, 35] : List UInt8).length : Nat) : Int)) = false := by
  simp; omega
 rw [e1]; rfl
theorem Qbh {c : Nat} (hc : Qbd c) : TotP (fun N => V2 N [43, 35] (c : Int)) (fun v => decide (v ≥ 0) = decide (c = 43 ∨ c = 35)) := by
 show TotP (fun N => cond (Q7 .leq 0 (c : Int)) _ _) _
 have e0 : Q7 .leq 0 (c : Int) = true := by rw [Q1y]; simp
 rw [e0];refine TotP.cond (fun _ => ?_) (fun h => by cases h);unfold Yt;rw [Zf, Q5z];refine TotP.cond (fun h => ?_) (fun h => ?_)
 ·have h : c < 128 := by have := of_decide_eq_true h; omega
  have ew : wrap .u8 (c : Int) = c := by
   rw [IntWalk.u8_in]; omega
  refine TotP.bindE (v := Qad [43, 35] (UInt8.ofNat c) 0) (.of fun N => ?_) (.ret ?_)
  ·show ((Qf N [43, 35] _).bind fun v => some v) = _;rw [ew]; rfl
  have := Qin (UInt8.ofNat c) [43, 35] 0;rw [decide_eq_decide];show (0 ≤ _) ↔ _;rw [this]
  have e1 : ∀ n, n < 256 → (UInt8.ofNat c = UInt8.ofNat n ↔ c = n) := fun n hn => by
   rw [← UInt8.toNat_inj, Bu, Bu]; omega
  have a := e1 43 (by omega);have b := e1 35 (by omega);simp only [Ml, Bb, or_false];exact or_congr a b
 have h : 128 ≤ c := by have := of_decide_eq_false h; omega
 have hn : decide (c = 43 ∨ c = 35) = false := by simp; omega
 refine TotP.cond (fun h1 => ?_) (fun h1 => ?_)
 ·-- bytes that are none
  refine ⟨-1, by rw [hn]; rfl, 3, fun N hN => ?_⟩;obtain ⟨M, rfl⟩ : ∃ M, N = M + 3 := ⟨N - 3, by omega⟩;exact Ql2 M
 refine TotP.bindE (.of (Qmx hc)) ?_;refine TotP.cond (fun h => by cases h) (fun _ => ?_);refine ⟨-1, by rw [hn]; rfl, 1, fun N hN => ?_⟩;obtain ⟨M, rfl⟩ : ∃ M, N = M + 1 := ⟨N - 1, by omega⟩;exact Qkr hc h M
end
end Go.Av
namespace Go.Av
noncomputable section
open Go.Proofs
def Qnu (s : List UInt8) : Bool := s.any fun b => b.toNat == 43 || b.toNat == 35
theorem Qma {s : List UInt8} {j : Nat} (hj : j < s.length) (h : at8 s j = 43 ∨ at8 s j = 35) : Qnu s = true := by
 unfold Qnu;rw [Cb];refine ⟨s[j], Mx _, ?_⟩;rw [Q8l hj] at h
 rcases h with h | h <;> simp [h]
theorem Qmo {s : List UInt8} (h : ∀ j, j < s.length → at8 s j ≠ 43 ∧ at8 s j ≠ 35) : Qnu s = false := by
 unfold Qnu;rw [List.any_eq_false];intro b hb;obtain ⟨j, hj, rfl⟩ := Br hb;have := h j hj;rw [Q8l hj] at this;simp [this.1, this.2]
def asciiS : List Bool := (List.range 256).map fun n => n == 43 || n == 35
theorem Qjs (n : Nat) (h : n < 256) : idx asciiS (n : Int) = some (n == 43 || n == 35) := by
 have hl : n < asciiS.length := by simp [asciiS]; exact h
 rw [Ze hl]; simp [asciiS]
set_option maxRecDepth 20000 in
theorem Qcq (s : List UInt8) (hs : s.length ≤ maxLen) : TotP (fun N => W8 N s) (fun v => decide (v ≥ 0) = Qnu s) := by
 have hm := Q5k;show TotP (fun N => cond (Gp .eql [43, 35] []) _ _) _;refine TotP.cond (fun h => by cases h) (fun _ => ?_);refine TotP.bindE (v := decide ((s.length : Int) > 8)) (.of fun N => rfl) ?_;refine TotP.cond (fun _ => ?_) (fun _ => ?_)
 ·refine Q5l (L := fun N n i => Zo N s n i) s.length (fun i => ∀ j, j < i → at8 s j ≠ 43 ∧ at8 s j ≠ 35) (fun i hi hj => ?_) (fun hj => ?_) (fun j hj => by omega)
  ·show Stp _ _ _ (fun N n => cond (Q7 .lss (i : Int) (s.length : Int)) _ _);refine Stp.cond (fun _ => ?_) (fun h => by rw [Zf] at h; have := of_decide_eq_false h; omega);refine Stp.idx (Ze hi) ?_;have hb := UInt8.toNat_lt s[i];refine Stp.chk (by simp; omega) ?_;refine Stp.idx (Qjs _ (by omega)) ?_;refine Stp.cond (fun h => ?_) (fun h => ?_)
   ·refine Stp.ret ?_;rw [Qma hi (by rw [Q8l hi]; simpa using h)];simp
   rw [w64 _ (by omega)];refine Stp.go _ ⟨by omega, fun j hj' => ?_⟩
   by_cases e : j = i
   ·subst e; rw [Q8l hi]; simpa using h
   exact hj j (by omega)
  show Stp _ _ _ (fun N n => cond (Q7 .lss (s.length : Int) (s.length : Int)) _ _);refine Stp.cond (fun h => by rw [Zf] at h; have := of_decide_eq_true h; omega) (fun _ => ?_);refine Stp.ret ?_;rw [Qmo hj]; rfl
 refine Q9n (L := fun N n (p : Nat) => Zp N s n p) (fun p => ∀ j, j < p → at8 s j ≠ 43 ∧ at8 s j ≠ 35) (fun p => s.length - p) (fun p hp => ?_) 0 (fun j hj => by omega);show Stp _ _ _ (fun N n => cond (Nat.blt p s.length) _ _);refine Stp.cond (fun h => ?_) (fun h => ?_)
 ·have hl : p < s.length := by simpa [Nat.blt_eq] using h
  rw [Qfp];obtain ⟨w1, w2, w3, w4, w5, w6⟩ := Qk0 s p hl;refine Stp.bind (Qbh w6) ?_;intro v hv;rw [Q13, hv];refine Stp.cond (fun h => ?_) (fun h => ?_)
  ·have h := of_decide_eq_true h;have h128 : at8 s p < 128 := w3.1 (by omega);refine Stp.ret ?_;rw [Qma hl (by rw [← (w4 h128).1]; exact h)];simp
  have h := of_decide_eq_false h;refine Stp.go _ ⟨fun j hj => ?_, by omega⟩
  by_cases e : j < p
  ·exact hp j e
  by_cases e2 : j = p
  ·subst e2
   by_cases h128 : at8 s j < 128
   ·rw [(w4 h128).1] at h; omega
   omega
  have := w5 (j - p) (by omega) (by omega);rw [show p + (j - p) = j by omega] at this;omega
 refine Stp.ret ?_;rw [Qmo (fun j hj => hp j ?_)]
 ·rfl
 have : ¬ p < s.length := fun hlt => by
  have h' : Nat.blt p s.length = true := by rw [Bh]; exact hlt
  rw [h'] at h; cases h
 omega
theorem Q71 (s : List UInt8) (hs : s.length ≤ maxLen) : Tot (fun N => Z3 N s) (Qnu s) := by
 refine TotP.tot ?_;refine TotP.bind (Qcq s hs) (fun v hv => .ret ?_);rw [Q13]; exact hv
def Qno (s : List UInt8) : Bool := decide (s ≠ []) && Qc0 s && !Qnu s
theorem Q7j (s : List UInt8) (hs : s.length ≤ maxLen) : Tot (fun N => Y8 N s) (Qno s) := by
 refine TotP.tot ?_;refine TotP.bindE (Qf9 s) ?_;refine TotP.cond (fun h => ?_) (fun h => ?_)
 ·refine TotP.bindE (Q71 s hs) (.ret ?_);unfold Qno; rw [h]; rfl
 exact .ret (by unfold Qno; rw [h]; rfl)
end
end Go.Av
namespace Go.Av
noncomputable section
def Any {R : Type} (f : Nat → Option R) : Prop := TotP f fun _ => True
theorem Ua (n size : Int) : TotP (fun N => Zk N n size) (fun l => l.length ≤ 16) := by
 show TotP (fun N => cond (Q7 .leq size 0) _ _) _;rw [Q1y];refine TotP.cond (fun _ => .ret (by simp)) (fun h => ?_)
 have h : 0 < size := by have := of_decide_eq_false h; omega
 obtain ⟨m, hm, hm16⟩ : ∃ m : Nat, ifB (decide (16 < size)) (16 : Int) size = (m : Int) ∧ m ≤ 16 := by
  by_cases g : 16 < size
  ·exact ⟨16, by rw [decide_eq_true g]; rfl, by omega⟩
  exact ⟨size.toNat, by rw [decide_eq_false g]; show size = _; omega, by omega⟩
 rw [hm];refine TotP.chk (by simp only [La, decide_eq_true_eq]; omega) ?_;have := Q9n (L := fun N n' (p : Int × List Int) => X4 N n size n' p.1 p.2) (Q := fun l : List UInt8 => l.length ≤ 16) (fun p => ∃ i : Nat, p.1 = (i : Int) ∧ i ≤ m ∧ p.2.length = m) (fun p => m - p.1.toNat)
  ?_ (0, List.replicate ((m : Int).toNat) 0) ⟨0, rfl, by omega, by simp⟩
 ·exact this
 rintro ⟨s, l⟩ ⟨i, hs, hi, hl⟩
 simp only at hs hl
 subst hs;show Stp _ _ _ (fun N n' => cond (Q7 .lss (i : Int) (ifB (decide (16 < size)) 16 size)) _ _);rw [hm, Zf, Zf];refine Stp.cond (fun h => ?_) (fun h => ?_)
 ·have h := of_decide_eq_true h
  have e1 : wrap .i64 ((i : Int) + 1) = ((i + 1 : Nat) : Int) := by rw [w64 _ (by omega)]; omega
  refine Stp.cond (fun h8 => ?_) (fun h8 => ?_)
  ·have h8 := of_decide_eq_true h8;refine Stp.chk ?_ ?_
   ·rw [w64 (8 * (i : Int)) (by omega)]
    have : i = 0 ∨ i = 1 ∨ i = 2 ∨ i = 3 ∨ i = 4 ∨ i = 5 ∨ i = 6 ∨ i = 7 := by omega
    rcases this with rfl | rfl | rfl | rfl | rfl | rfl | rfl | rfl <;> rfl
   have e2 : wrap .i64 (wrap .i64 ((m : Int) - 1) - (i : Int)) = ((m - 1 - i : Nat) : Int) := by rw [w64 ((m : Int) - 1) (by omega), w64 _ (by omega)]; omega
   rw [e1, e2];refine Stp.idx (Ze (show m - 1 - i < l.length by omega)) ?_;refine Stp.go (L := fun N n' (p : Int × List Int) => X4 N n size n' p.1 p.2) (_, _) ⟨⟨i + 1, rfl, by omega, by simp [hl]⟩, ?_⟩;simp only [Mk]; omega
  rw [e1];refine Stp.go (L := fun N n' (p : Int × List Int) => X4 N n size n' p.1 p.2) (_, _) ⟨⟨i + 1, rfl, by omega, hl⟩, ?_⟩;simp only [Mk]; omega
 exact Stp.ret (by simp [hl]; exact hm16)
theorem Qaf (x : Int) : TotP (fun N => Wh N x) (fun r => r.1.length ≤ 268435456) := by
 show TotP (fun N => (G7 N x).bind _) _
 have hm : ∀ N, G7 N x = some (decide (0 ≤ x) && decide (x ≤ 268435455)) := fun N => by
  show cond (Q7 .geq x 0) (some (Q7 .leq x 268435455)) (some false) = _;rw [Q13, Q1y]
  by_cases h : 0 ≤ x
  ·rw [decide_eq_true (p := x ≥ 0) h]; rfl
  rw [decide_eq_false (p := x ≥ 0) h]; rfl
 refine TotP.bindE (.of hm) ?_;refine TotP.cond (fun _ => .ret (by simp)) (fun h => ?_)
 have h : 0 ≤ x ∧ x ≤ 268435455 := by simpa using h
 have := Q9n (L := fun N n' (p : Int × List Int) => Yy N n' p.1 p.2) (Q := fun r : List UInt8 × Int => r.1.length ≤ 268435456) (fun p => 0 ≤ p.1 ∧ (p.2.length : Int) ≤ 268435455 - p.1) (fun p => p.1.toNat)
  ?_ (x, []) ⟨h.1, by simp; omega⟩
 ·exact this
 rintro ⟨s, l⟩ ⟨h1, h2⟩
 simp only at h1 h2
 show Stp _ _ _ (fun N n' => cond (Q7 .geq s 128) _ _);rw [Q13];refine Stp.cond (fun h => ?_) (fun h => ?_)
 ·have h := of_decide_eq_true h;refine Stp.chk (by rw [Lr]; dsimp only; omega) ?_;have e : s.tdiv 128 = s / 128 := Bw h1;rw [e, w64 _ (by omega)];refine Stp.go (L := fun N n' (p : Int × List Int) => Yy N n' p.1 p.2) (_, _) ⟨⟨by simp only; omega, by simp only [Lh, Lm, Mj]; omega⟩, by simp only; omega⟩
 refine Stp.chk (by rw [Lr]; dsimp only; omega) ?_;exact Stp.ret (by simp; omega)
theorem Q6c (s : List UInt8) : TotP (fun N => W1 N s) (fun r => r.1.length ≤ 65551) := by
 show TotP (fun N => cond (Q7 .gtr (s.length : Int) 65535) _ _) _;rw [Qbo];refine TotP.cond (fun _ => .ret (by simp)) (fun h => ?_);have h := of_decide_eq_false h;refine TotP.bind (f := fun N => W2 N s) (V := fun l => l.length ≤ 65551) ?_ (fun v hv => .ret hv);refine TotP.bind (Ua _ _) (fun v hv => ?_);refine TotP.chk (by rw [Lr]; omega) (.ret ?_)
 simp; omega
section
end
end
end Go.Av
namespace Go.Av
noncomputable section
section
variable {R S T : Type} {L : Nat → Nat → S → Option R} {P : S → Prop} {Q : R → Prop}
theorem Stp.optN {f : Nat → Nat → T → Option R} {z : Nat → Nat → Option R} (h : Stp L P Q z) : Stp L P Q (fun N n => optC none (f N n) (z N n)) := h
theorem Stp.optS {v : T} {f : Nat → Nat → T → Option R} {z : Nat → Nat → Option R} (h : Stp L P Q (fun N n => f N n v)) : Stp L P Q (fun N n => optC (some v) (f N n) (z N n)) := h
end
theorem Qcp {T : Type} {x : Int} {v : T} : ∀ {tab : List (Int × T)}, Q4t tab x = some v → (x, v) ∈ tab
 | (k, w) :: r, h => by
  unfold Q4t at h
  cases hb : x == k with
  | true => rw [hb] at h; have e := eq_of_beq hb; subst e; cases h; exact List.mem_cons_self
  | false => rw [hb] at h; exact List.mem_cons_of_mem _ (Qcp h)
 | [], h => nomatch h
theorem Qlc {x : Int} {v : Qc} (h : Q4t F_prop_rules_tab x = some v) : 1 ≤ x ∧ x ≤ 42 := by
 have hall : (F_prop_rules_tab.all fun q => decide (1 ≤ q.1) && decide (q.1 ≤ 42)) = true := by decide +kernel
 have := Lw.1 hall _ (Qcp h);simpa using this
theorem Qij (s : Int) (p : Q1) : TotP (fun N => Wv N s p) (fun l => l.length ≤ 268500000) := by
 refine TotP.cond (fun _ => TotP.bind (Ua _ _) (fun v hv => .ret (by omega))) (fun _ => ?_);refine TotP.cond (fun _ => TotP.bind (Ua _ _) (fun v hv => .ret (by omega))) (fun _ => ?_);refine TotP.cond (fun _ => TotP.bind (Ua _ _) (fun v hv => .ret (by omega))) (fun _ => ?_);refine TotP.cond (fun _ => TotP.bind (Qaf _) (fun v hv => .ret (by omega))) (fun _ => ?_);refine TotP.bind (Q6c _) (fun v hv => ?_);refine TotP.cond (fun _ => .ret (by omega)) (fun _ => ?_);refine TotP.bind (Q6c _) (fun w hw => ?_);exact TotP.chk (by rw [Lr]; omega) (.ret (by simp only [Lh]; omega))
end
end Go.Av
namespace Go.Av
noncomputable section
theorem Qd4 (l : List Q1) (hb : l.length ≤ maxLen) : TotP (fun N => Qv N l) (fun v => v = true → l.length ≤ 30 ∧ ∀ p ∈ l, p.Text.length ≤ 300 ∧ p.Value.length ≤ 300) := by
 have hm := Q5k
 ·refine Q5l (L := fun N n s => Qz N l n s) l.length (fun i => ∀ j (h : j < l.length), j < i → (l[j]).Text.length ≤ 300 ∧ (l[j]).Value.length ≤ 300) (fun i hi hj => ?_) (fun hj => ?_) (fun j _ hj => by omega)
  ·show Stp _ _ _ (fun N n => cond (Q7 .lss (i : Int) ((Q6 Q1.cells l).length : Int)) _ _);rw [Qa, Zf];refine Stp.cond (fun _ => ?_) (fun h => by have := of_decide_eq_false h; omega);refine Stp.idx (Ze hi) ?_;rw [Qbo];refine Stp.cond (fun _ => Stp.ret (fun h => nomatch h)) (fun h1 => ?_);refine Stp.idx (Ze hi) ?_;rw [Qbo];refine Stp.cond (fun _ => Stp.ret (fun h => nomatch h)) (fun h2 => ?_);have h1 := of_decide_eq_false h1; have h2 := of_decide_eq_false h2;rw [w64 _ (by omega)];refine Stp.go (L := fun N n s => Qz N l n s) _ ⟨by omega, fun j hj' hji => ?_⟩
   by_cases e : j = i
   ·subst e; constructor <;> omega
   exact hj j hj' (by omega)
  show Stp _ _ _ (fun N n => cond (Q7 .lss (l.length : Int) ((Q6 Q1.cells l).length : Int)) _ _);rw [Qa, Zf];refine Stp.cond (fun h => by have := of_decide_eq_true h; omega) (fun _ => Stp.ret (fun h => ⟨?_, fun p hp => ?_⟩))
  ·rw [Q1y] at h; have := of_decide_eq_true h; omega
  obtain ⟨j, hj', rfl⟩ := Br hp;exact hj j hj' hj'
structure OkE (e : Yn) : Prop where
 topic : e.Topic.length ≤ maxLen
 props : e.Props.length ≤ maxLen
 filters : e.Packet.Filters.length ≤ maxLen
 pprops : e.Packet.Props.length ≤ maxLen
 wprops : e.Packet.Will.Props.length ≤ maxLen
structure LightE (e : Yn) : Prop where
 topic : e.Topic.length ≤ 2000
 payload : e.Payload.length ≤ 2000
 props : e.Props.length ≤ 30 ∧ ∀ p ∈ e.Props, p.Text.length ≤ 300 ∧ p.Value.length ≤ 300
 hops : e.Hops.length ≤ 8 ∧ ∀ h ∈ e.Hops, h.Node.length ≤ 300
def Lv (o : Option Int) (P : Prop) : Prop := ∃ v, o = some v ∧ (v = 0 → P)
theorem Lv.of {v : Int} {P : Prop} (h : P) : Lv (some v) P := ⟨v, rfl, fun _ => h⟩
theorem Lv.no {v : Int} {P : Prop} (h : v ≠ 0) : Lv (some v) P := ⟨v, rfl, fun e => absurd e h⟩
theorem Lv.cond {b : Bool} {x y : Option Int} {P : Prop} (h1 : Lv x P) (h2 : Lv y P) : Lv (cond b x y) P := by cases b <;> assumption
structure PubE (e : Yn) : Prop where
 proto : e.Proto = 1 ∨ e.Proto = 2 ∨ e.Proto = 3 ∨ e.Proto = 4
 kind : e.Kind = 1
 qos : e.QoS = -1 ∨ e.QoS = 0 ∨ e.QoS = 1 ∨ e.QoS = 2
end
end Go.Av
namespace Go.Av
noncomputable section
open Go.Proofs
set_option maxRecDepth 100000
end
end Go.Av
namespace Go.Av
noncomputable section
open Go.Proofs
set_option maxRecDepth 100000
end
end Go.Av
namespace Go.Av
noncomputable section
open Go.Proofs
set_option maxRecDepth 100000
end
end Go.Av
namespace Go.Av
noncomputable section
open Go.Proofs
set_option maxRecDepth 100000
end
end Go.Av
namespace Go.Av
noncomputable section
open Go.Proofs
set_option maxRecDepth 100000
end
end Go.Av
namespace Go.Av
noncomputable section
open Go.Proofs
set_option maxRecDepth 100000
end
end Go.Av
namespace Go.Av
noncomputable section
open Go.Proofs
set_option maxRecDepth 100000
structure FB (f : Vz) : Prop where
 fine : ∀ x ∈ f.Values, Fine x
 sz : Q5.szs f.Values < 160000000
 wgt : Q5.wgts f.Values < 4000000000
theorem FB.len {f : Vz} (h : FB f) : f.Values.length < 160000000 := by
 have h1 := Q5.szs_len f.Values;have h2 := h.sz;omega
end
end Go.Av
namespace Go.Av
noncomputable section
open Go.Proofs
set_option maxRecDepth 100000
theorem Vz.ext' {a b : Vz} (h1 : a.Type' = b.Type') (h2 : a.Channel = b.Channel) (h3 : a.Ext = b.Ext) (h4 : a.Values = b.Values) : a = b := by cases a; cases b; simp_all
noncomputable instance : DecidableEq Vz := fun a b => decidable_of_iff (a.Type' = b.Type' ∧ a.Channel = b.Channel ∧ a.Ext = b.Ext ∧ a.Values = b.Values) ⟨fun h => Vz.ext' h.1 h.2.1 h.2.2.1 h.2.2.2, fun h => by rw [h]; exact ⟨rfl, rfl, rfl, rfl⟩⟩
end
end Go.Av
namespace Go.Av
noncomputable section
theorem Q5r (x y : List UInt8) : Gp .eql x y = decide (x = y) := by
 show (x == y) = _
 by_cases h : x = y
 ·rw [h]; simp
 rw [decide_eq_false h]; exact beq_eq_false_iff_ne.2 h
theorem Qln (x y : List UInt8) : Gp .neq x y = decide (x ≠ y) := by
 show (!(x == y)) = _
 by_cases h : x = y
 ·rw [h]; simp
 rw [decide_eq_true h, beq_eq_false_iff_ne.2 h]; rfl
section
variable {T : Type}
theorem Qhy {L : Nat → Nat → Int → Option Bool} {a b : List T} {eq : T → T → Bool} (heq : ∀ x y, eq x y = true ↔ x = y) (hab : a.length = b.length) (hm : a.length ≤ maxLen)
  (Qh : ∀ N n (i : Nat) (h : i < a.length) (h' : i < b.length), L N (n + 1) (i : Int) = cond (!(eq a[i] b[i])) (some false) (L N n (wrap .i64 ((i : Int) + 1)))) (fin : ∀ N n, L N (n + 1) (a.length : Int) = some true) :
  TotP (fun N => L N N 0) (fun v => v = true ↔ a = b) := by
 have hml := Q5k;refine Q5l (L := L) a.length (fun i => ∀ j (h : j < a.length) (h' : j < b.length), j < i → a[j] = b[j]) (fun i hi hj => ?_) (fun hj => ?_) (fun j _ _ hj => by omega)
 ·have e : (fun N n => L N (n + 1) (i : Int)) = fun N n => cond (!(eq (a[i]'hi) (b[i]'(by omega)))) (some false) (L N n (wrap .i64 ((i : Int) + 1))) := by
   funext N n; exact Qh N n i hi (by omega)
  rw [e, w64 _ (by omega)];refine Stp.cond (fun h => Stp.ret ?_) (fun h => Stp.go (L := L) _ ⟨by omega, fun j hj1 hj2 hji => ?_⟩)
  ·have h : ¬ eq (a[i]'hi) (b[i]'(by omega)) = true := by simpa using h
   refine ⟨fun h => (by cases h), fun e => absurd ((heq _ _).2 ?_) h⟩;subst e; rfl
  have h : eq (a[i]'hi) (b[i]'(by omega)) = true := by simpa using h
  by_cases e : j = i
  ·subst e; exact (heq _ _).1 h
  exact hj j hj1 hj2 (by omega)
 have e : (fun N n => L N (n + 1) (a.length : Int)) = fun _ _ => some true := by funext N n; exact fin N n
 rw [e];exact Stp.ret ⟨fun _ => List.ext_getElem hab (fun j h1 h2 => hj j h1 h2 h1), fun _ => rfl⟩
end
theorem Qqo {x y : Q1} : (((x.ID : Int) == y.ID) && (((x.N' : Int) == y.N') && (((x.Text : List UInt8) == y.Text) && (((x.Value : List UInt8) == y.Value) && true)))) = true ↔ x = y := by
 cases x; cases y; simp
theorem Qn5 {x y : Q2} : (((x.Topic : List UInt8) == y.Topic) && (((x.QoS : Int) == y.QoS) && (((x.NoLocal : Bool) == y.NoLocal) && (((x.AsPublished : Bool) == y.AsPublished) && (((x.Handling : Int) == y.Handling) && true))))) = true ↔ x = y := by
 cases x; cases y; simp
theorem Q73 (a b : List Q1) (ha : a.length ≤ maxLen) : TotP (fun N => Yi N a b) (fun v => v = true ↔ a = b) := by
 unfold Yi;rw [Qa, Qa, Q11];refine TotP.cond (fun h => .ret ⟨fun h => (by cases h), fun e => ?_⟩) (fun h => ?_)
 ·have := of_decide_eq_true h; subst e; exact absurd rfl this
 have h := of_decide_eq_false h
 have hab : a.length = b.length := by omega
 refine Qhy (L := fun N n i => Zz N a b n i) (eq := fun x y => ((x.ID : Int) == y.ID) && (((x.N' : Int) == y.N') && (((x.Text : List UInt8) == y.Text) && (((x.Value : List UInt8) == y.Value) && true)))) (fun _ _ => Qqo) hab ha (fun N n i h h' => ?_) (fun N n => ?_)
 ·show cond (Q7 .lss (i : Int) ((Q6 Q1.cells a).length : Int)) ((idx a (i : Int)).bind _) _ = _;rw [Qa, Zf, decide_eq_true (by omega), Ze h, Ze h']; rfl
 show cond (Q7 .lss (a.length : Int) ((Q6 Q1.cells a).length : Int)) _ _ = _;rw [Qa, Zf, decide_eq_false (by omega)]; rfl
theorem Q9l (a b : List Q2) (ha : a.length ≤ maxLen) : TotP (fun N => Yq N a b) (fun v => v = true ↔ a = b) := by
 unfold Yq;rw [Qa, Qa, Q11];refine TotP.cond (fun h => .ret ⟨fun h => (by cases h), fun e => ?_⟩) (fun h => ?_)
 ·have := of_decide_eq_true h; subst e; exact absurd rfl this
 have h := of_decide_eq_false h
 have hab : a.length = b.length := by omega
 refine Qhy (L := fun N n i => Zg N a b n i) (eq := fun x y => ((x.Topic : List UInt8) == y.Topic) && (((x.QoS : Int) == y.QoS) && (((x.NoLocal : Bool) == y.NoLocal) && (((x.AsPublished : Bool) == y.AsPublished) && (((x.Handling : Int) == y.Handling) && true))))) (fun _ _ => Qn5) hab ha (fun N n i h h' => ?_) (fun N n => ?_)
 ·show cond (Q7 .lss (i : Int) ((Q6 Q2.cells a).length : Int)) ((idx a (i : Int)).bind _) _ = _;rw [Qa, Zf, decide_eq_true (by omega), Ze h, Ze h']; rfl
 show cond (Q7 .lss (a.length : Int) ((Q6 Q2.cells a).length : Int)) _ _ = _;rw [Qa, Zf, decide_eq_false (by omega)]; rfl
theorem Qex (a b : List Int) (ha : a.length ≤ maxLen) : TotP (fun N => U0 N a b) (fun v => v = true ↔ a = b) := by
 unfold U0;rw [Qa, Qa, Q11];refine TotP.cond (fun h => .ret ⟨fun h => (by cases h), fun e => ?_⟩) (fun h => ?_)
 ·have := of_decide_eq_true h; subst e; exact absurd rfl this
 have h := of_decide_eq_false h
 have hab : a.length = b.length := by omega
 refine Qhy (L := fun N n i => Xc N a b n i) (eq := fun x y => Q7 .eql x y) (fun x y => by rw [Q5z]; exact decide_eq_true_iff) hab ha (fun N n i h h' => ?_) (fun N n => ?_)
 ·show cond (Q7 .lss (i : Int) ((Q6 (cI .i64) a).length : Int)) ((idx a (i : Int)).bind _) _ = _;rw [Qa, Zf, decide_eq_true (by omega), Ze h, Ze h']; rfl
 show cond (Q7 .lss (a.length : Int) ((Q6 (cI .i64) a).length : Int)) _ _ = _;rw [Qa, Zf, decide_eq_false (by omega)]; rfl
structure Qr4 (p : Q3) : Prop where
 codes : p.Codes.length ≤ maxLen
 filters : p.Filters.length ≤ maxLen
 props : p.Props.length ≤ maxLen
 wprops : p.Will.Props.length ≤ maxLen
theorem Qcr (a b : Xe) (ha : a.Props.length ≤ maxLen) : TotP (fun N => Vp N a b) (fun v => v = true ↔ a = b) := by
 obtain ⟨t, p, q, r, l⟩ := a; obtain ⟨t', p', q', r', l'⟩ := b;unfold Vp;dsimp only;rw [Q5r, Q5r, Q5z];refine TotP.cond (fun h1 => ?_) (fun h1 => .ret ⟨fun h => (by cases h), fun e => ?_⟩)
 ·refine TotP.cond (fun h2 => ?_) (fun h2 => .ret ⟨fun h => (by cases h), fun e => ?_⟩)
  ·refine TotP.cond (fun h3 => ?_) (fun h3 => .ret ⟨fun h => (by cases h), fun e => ?_⟩)
   ·refine TotP.cond (fun h4 => ?_) (fun h4 => .ret ⟨fun h => (by cases h), fun e => ?_⟩)
    ·refine TotP.bind (Q73 l l' ha) (fun v hv => .ret ?_);rw [hv];have h1 := of_decide_eq_true h1; have h2 := of_decide_eq_true h2; have h3 := of_decide_eq_true h3; have h4 := eq_of_beq h4;subst h1 h2 h3 h4;simp
    injection e with _ _ _ e _; subst e; simp at h4
   injection e with _ _ e _ _; exact absurd e (of_decide_eq_false h3)
  injection e with _ e _ _ _; exact absurd e (of_decide_eq_false h2)
 injection e with e _ _ _ _; exact absurd e (of_decide_eq_false h1)
theorem Qcx (a b : Q3) (ha : Qr4 a) : TotP (fun N => Qw N a b) (fun v => v = true ↔ a = b) := by
 unfold Qw;refine TotP.bindE (.of fun N => rfl) ?_;refine TotP.bindE (.of fun N => rfl) ?_;refine TotP.cond (fun h1 => ?_) (fun h1 => .ret ⟨fun h => (by cases h), fun e => ?_⟩)
 ·refine TotP.bind (Qcr a.Will b.Will ha.wprops) (fun v2 h2 => ?_);refine TotP.cond (fun e2 => ?_) (fun e2 => .ret ⟨fun h => (by cases h), fun e => ?_⟩)
  ·refine TotP.bind (Qex a.Codes b.Codes ha.codes) (fun v3 h3 => ?_);refine TotP.cond (fun e3 => ?_) (fun e3 => .ret ⟨fun h => (by cases h), fun e => ?_⟩)
   ·refine TotP.bind (Q9l a.Filters b.Filters ha.filters) (fun v4 h4 => ?_);refine TotP.cond (fun e4 => ?_) (fun e4 => .ret ⟨fun h => (by cases h), fun e => ?_⟩)
    ·refine TotP.bind (Q73 a.Props b.Props ha.props) (fun v5 h5 => .ret ?_);rw [h5];have e2 := h2.1 e2; have e3 := h3.1 e3; have e4 := h4.1 e4;obtain ⟨a1, a2, a3, a4, a5, a6, a7, a8, a9, a10, a11, a12, a13, a14, a15, a16, a17, a18, a19, a20, a21⟩ := a;obtain ⟨b1, b2, b3, b4, b5, b6, b7, b8, b9, b10, b11, b12, b13, b14, b15, b16, b17, b18, b19, b20, b21⟩ := b;dsimp only at e2 e3 e4 ⊢;simp at h1;simp [h1, e2, e3, e4]
    subst e; exact absurd (h4.2 rfl) (by rw [e4]; simp)
   subst e; exact absurd (h3.2 rfl) (by rw [e3]; simp)
  subst e; exact absurd (h2.2 rfl) (by rw [e2]; simp)
 subst e; simp at h1
end
end Go.Av
namespace Go.Av
noncomputable section
theorem Q2h {R : Type} {f : Nat → Option R} {r : R} (h : Tot f r) : Any f := ⟨r, trivial, h⟩
theorem TotP.any {R : Type} {f : Nat → Option R} {Q : R → Prop} (h : TotP f Q) : Any f := h.mono fun _ _ => trivial
theorem Qsy {k : Int} (h : 0 ≤ k ∧ k ≤ 18446744073709551615) : wrap .u64 k = k := IntWalk.u64_in k h
theorem Qm3 (r : Qc) (k : Int) : Any (fun N => Xy N r k) := by
 unfold Xy;rw [Q13, Q1y];refine TotP.cond (fun h1 => ?_) (fun _ => .ret trivial);refine TotP.cond (fun h2 => ?_) (fun _ => .ret trivial);have h1 := of_decide_eq_true h1; have h2 := of_decide_eq_true h2;exact TotP.chk (by rw [Qsy (by omega), decide_eq_true_eq]; omega) (.ret trivial)
theorem Qhh (r : Qc) (k : Int) (p : Q1) (h1 : p.Text.length ≤ maxLen) : Any (fun N => Vx N r k p) := by
 refine TotP.bind (Qm3 r k) (fun _ _ => ?_)
 have num : Any (fun N => We N r p) := by
  unfold We
  repeat' first
   | exact TotP.ret trivial
   | refine TotP.cond (fun _ => ?_) (fun _ => ?_)
 have hV : ∀ s, Any (fun N => Qx N s) := fun s => Q2h (Q2i s);have hN : Any (fun N => Y8 N p.Text) := Q2h (Q7j _ h1)
 repeat' first
  | exact TotP.ret trivial
  | refine TotP.cond (fun _ => ?_) (fun _ => ?_)
  | refine TotP.bind (by first | exact hV _ | exact hN | exact num) (fun _ _ => ?_)
theorem Qhe (k i : Int) : Any (fun N => J1 N k i) := by
 unfold J1
 repeat' first
  | exact TotP.ret trivial
  | refine TotP.cond (fun _ => ?_) (fun _ => ?_)
theorem Qi3 (k : Int) (p : Q1) : Tot (fun N => Vx N ⟨0, 0, 0, 0⟩ k p) 9 := by
 refine .of fun N => ?_
 have e : Xy N ⟨0, 0, 0, 0⟩ k = some false := by
  unfold Xy;rw [Q13, Q1y]
  by_cases h1 : k ≥ 1
  ·by_cases h2 : k ≤ 16
   ·rw [decide_eq_true h1, decide_eq_true h2]
    have : k = 1 ∨ k = 2 ∨ k = 3 ∨ k = 4 ∨ k = 5 ∨ k = 6 ∨ k = 7 ∨ k = 8 ∨ k = 9 ∨ k = 10 ∨ k = 11 ∨ k = 12 ∨ k = 13 ∨ k = 14 ∨ k = 15 ∨ k = 16 := by omega
    rcases this with rfl | rfl | rfl | rfl | rfl | rfl | rfl | rfl | rfl | rfl | rfl | rfl | rfl | rfl | rfl | rfl <;> rfl
   rw [decide_eq_true h1, decide_eq_false h2]; rfl
  rw [decide_eq_false h1]; rfl
 unfold Vx;rw [e]; rfl
def Qlm (k : Int) (l : List Q1) (N n : Nat) (p : Int × List Int × List Int) : Option (List UInt8 × Int) := Qq N k l n p.1 p.2.1 p.2.2
theorem Qgw (k : Int) (l : List Q1) (hl : l.length ≤ 30) (hp : ∀ p ∈ l, p.Text.length ≤ maxLen) (a : List Int) (ha : a.length = 64) : TotP (fun N => Qq N k l N 0 a []) (fun r => r.1.length ≤ 9000000000) := by
 have := Q9n (L := Qlm k l) (Q := fun r => r.1.length ≤ 9000000000) (fun p => ∃ i : Nat, p.1 = (i : Int) ∧ i ≤ l.length ∧ p.2.1.length = 64 ∧ p.2.2.length ≤ i * 268600000) (fun p => l.length - p.1.toNat)
  ?_ (0, a, []) ⟨0, rfl, by omega, ha, by simp⟩
 ·exact this
 rintro ⟨s, b, o⟩ ⟨i, hs, hi, hb, ho⟩
 simp only at hs hb ho
 subst hs;show Stp _ _ _ (fun N n' => cond (Q7 .lss (i : Int) ((Q6 Q1.cells l).length : Int)) _ _);rw [Qa, Zf];refine Stp.cond (fun h => ?_) (fun h => ?_)
 ·have h := of_decide_eq_true h
  have hi : i < l.length := by omega
  refine Stp.idx (Ze hi) ?_;have hT := hp _ (Mx hi);generalize l[i] = y at hT
  have e1 : wrap .i64 ((i : Int) + 1) = ((i + 1 : Nat) : Int) := by rw [w64 _ (by omega)]; omega
  have go : ∀ (b' o' : List Int), b'.length = 64 → o'.length ≤ (i + 1) * 268600000 → Stp (Qlm k l) (fun s' => (∃ i : Nat, s'.1 = (i : Int) ∧ i ≤ l.length ∧ s'.2.1.length = 64 ∧ s'.2.2.length ≤ i * 268600000) ∧ l.length - s'.1.toNat < l.length - (i : Int).toNat) (fun r => r.1.length ≤ 9000000000) (fun N n => Qq N k l n (wrap .i64 ((i : Int) + 1)) b' o') := by
   intro b' o' h1 h2;rw [e1];exact Stp.go (L := Qlm k l) ((i + 1 : Nat), b', o') ⟨⟨i + 1, rfl, by omega, h1, h2⟩, by simp only [Mk]; omega⟩
  show Stp _ _ _ (fun N n => optC (Q4t F_prop_rules_tab y.ID) _ _)
  cases hk : Q4t F_prop_rules_tab y.ID with
  | none =>
   refine Stp.optN ?_;refine Stp.bind (V := (· = 9)) ⟨9, rfl, Qi3 k y⟩ (fun v hv => ?_);subst hv;exact Stp.cond (fun _ => Stp.ret (by simp)) (fun h => nomatch h)
  | some r =>
   have hid := Qlc hk;obtain ⟨q, hk'⟩ : ∃ q : Nat, y.ID = (q : Int) := ⟨y.ID.toNat, by omega⟩
   have hk64 : q < 64 := by omega
   refine Stp.optS ?_;refine Stp.bind (Qhh r k y hT) (fun v _ => ?_);refine Stp.cond (fun _ => Stp.ret (by simp)) (fun _ => ?_);refine Stp.chk (by rw [hk']; simp only [La, decide_eq_true_eq]; omega) ?_;rw [hk'];refine Stp.idx (Ze (show q < b.length by omega)) ?_;refine Stp.idx (Ze (show q < b.length by omega)) ?_;refine Stp.idx (Ze (show q < (b.set _ _).length by rw [Nk]; omega)) ?_
   have hb' : ∀ x y, (b.set x y).length = 64 := fun x y => by rw [Nk]; exact hb
   have tail : Stp (Qlm k l) (fun s' => (∃ i : Nat, s'.1 = (i : Int) ∧ i ≤ l.length ∧ s'.2.1.length = 64 ∧ s'.2.2.length ≤ i * 268600000) ∧ l.length - s'.1.toNat < l.length - (i : Int).toNat) (fun r => r.1.length ≤ 9000000000)
     (fun N n => cond (Nat.ble ((o.length + 1 + 4096) * 1) 17592186044416) ((Wv N r.shape y).bind fun v130 =>
      cond (Nat.beq v130.length 0)
      (Qq N k l n (wrap .i64 ((i : Int) + 1)) (b.set (Int.toNat (q : Int)) (wrap .i64 (b[q] + 1))) (o ++ [(wrap .u8 (q : Int))]))
      (cond (Nat.ble (((o.length + 1) + v130.length + 4096) * 1) 17592186044416) (Qq N k l n (wrap .i64 ((i : Int) + 1)) (b.set (Int.toNat (q : Int)) (wrap .i64 (b[q] + 1))) ((o ++ [(wrap .u8 (q : Int))]) ++ (v130.map fun b => (b.toNat : Int)))) none)) none) := by
    refine Stp.chk (by rw [Lr]; omega) ?_;refine Stp.bind (Qij _ _) (fun v hv => ?_);refine Stp.cond (fun _ => go _ _ (hb' _ _) (by simp only [Lh, Lm, Mj]; omega)) (fun _ => ?_);refine Stp.chk (by rw [Lr]; omega) ?_;exact go _ _ (hb' _ _) (by simp only [Lh, Lm, Mj, Ly]; omega)
   refine Stp.cond (fun _ => ?_) (fun _ => tail);refine Stp.bind (Qhe _ _) (fun v _ => ?_);exact Stp.cond (fun _ => Stp.ret (by simp)) (fun _ => tail)
 refine Stp.fin ?_
 have vb : TotP (fun N => (Wh N (o.length : Int)).bind fun v169 => cond (Q7 .neq v169.2 0) (some (([] : List UInt8), (4 : Int))) (cond (Nat.ble (v169.1.length + (o.map fun n => UInt8.ofNat n.toNat).length) 4611686018427387904) (some ((v169.1 ++ (o.map fun n => UInt8.ofNat n.toNat)), 0)) none)) (fun r => r.1.length ≤ 9000000000) := by
  refine TotP.bind (Qaf _) (fun v hv => ?_);refine TotP.cond (fun _ => .ret (by simp)) (fun _ => ?_);exact TotP.chk (by rw [Lr, Ly]; omega) (.ret (by simp only [Lh, Ly]; omega))
 refine TotP.idx (Ze (show 22 < b.length by omega)) ?_;refine TotP.cond (fun _ => ?_) (fun _ => vb);refine TotP.idx (Ze (show 21 < b.length by omega)) ?_;exact TotP.cond (fun _ => .ret (by simp)) (fun _ => vb)
structure OkP (l : List Q1) : Prop where
 len : l.length ≤ 30
 txt : ∀ p ∈ l, p.Text.length ≤ maxLen
theorem J2 (k : Int) (l : List Q1) (h : OkP l) : TotP (fun N => Ym N k l) (fun r => r.1.length ≤ 9000000000) := by
 unfold Ym;exact TotP.cond (fun _ => .ret (by simp)) (fun _ => Qgw k l h.len h.txt _ rfl)
theorem Q6g (k : Int) (l : List Q1) (h : OkP l) : Any (fun N => Zw N k l) := TotP.bind (J2 k l h) (fun _ _ => .ret trivial)
theorem Qaq (k c : Int) : Any (fun N => Wu N k c) := by
 obtain ⟨w0, w1, w2, w3, e, _⟩ := Qdk k;unfold Wu Qpx;rw [e];unfold Qps;rw [Q13, Zf];refine TotP.cond (fun h1 => ?_) (fun _ => .ret trivial);refine TotP.cond (fun h2 => ?_) (fun _ => .ret trivial);have h1 := of_decide_eq_true h1; have h2 := of_decide_eq_true h2;have e1 : c.tdiv 64 = c / 64 := Bw h1;have e2 : c.tmod 64 = c % 64 := Int.tmod_eq_emod_of_nonneg h1;rw [e1, e2, w64 _ (by omega)]
 have : c / 64 = 0 ∨ c / 64 = 1 ∨ c / 64 = 2 ∨ c / 64 = 3 := by omega
 have hk : decide (0 ≤ wrap .u64 (c % 64)) = true := by rw [Qsy (by omega), decide_eq_true_eq]; omega
 rcases this with h | h | h | h <;> rw [h] <;> exact TotP.bindE (.of fun _ => rfl) (TotP.chk hk (.ret trivial))
structure Qhr (p : Q3) : Prop where
 l : Qr4 p
 props : OkP p.Props
 wprops : OkP p.Will.Props
 topic : p.Topic.length ≤ 2000
 payload : p.Payload.length ≤ 2000
 client : p.Client.length ≤ 2000
 user : p.User.length ≤ 2000
 pass : p.Pass.length ≤ 2000
 wtopic : p.Will.Topic.length ≤ 2000
 wpayload : p.Will.Payload.length ≤ 2000
 codes : p.Codes.length ≤ 30
 filters : p.Filters.length ≤ 30 ∧ ∀ f ∈ p.Filters, f.Topic.length ≤ 2000
theorem ml2 : 2000 ≤ maxLen := by unfold maxLen; decide
section
variable {p : Q3} (h : Qhr p)
include h
theorem Q56 (q : Q3) : Any (fun N => Qw N p q) := (Qcx p q h.l).any
theorem Qbg (k : Int) : Any (fun N => Zw N k p.Props) := Q6g k _ h.props
theorem Qls (v : Int) : Any (fun N => Q0g N v p) := by
 have hk : ∀ a b, Any (fun N => Q08 N a b) := fun a b => by
  unfold Q08
  repeat' first
   | exact TotP.ret trivial
   | refine TotP.cond (fun _ => ?_) (fun _ => ?_)
 unfold Q0g
 repeat' first
  | exact TotP.ret trivial
  | refine TotP.cond (fun _ => ?_) (fun _ => ?_)
  | refine TotP.bind (by first | exact hk _ _ | exact Qaq _ _ | exact Q56 h _ | exact Qbg h _) (fun _ _ => ?_)
theorem Ql8 (v : Int) : TotP (fun N => Q1e N v p) (fun r => r.1.length ≤ 10000000000) := by
 unfold Q1e;refine TotP.bind (Qls h v) (fun a _ => ?_);refine TotP.cond (fun _ => .ret (by simp)) (fun _ => ?_);refine TotP.bind (Ua _ _) (fun b hb => ?_);refine TotP.cond (fun _ => ?_) (fun _ => ?_)
 ·refine TotP.bind (Ua _ _) (fun c hc => ?_);refine TotP.chk (by rw [Lr]; omega) ?_;refine TotP.cond (fun _ => ?_) (fun _ => .ret (by simp; omega));refine TotP.bind (J2 _ _ h.props) (fun d hd => ?_);exact TotP.chk (by rw [Lr]; simp only [Lh]; omega) (.ret (by simp only [Lh]; omega))
 refine TotP.cond (fun _ => ?_) (fun _ => .ret (by dsimp only; omega));refine TotP.bind (Ua _ _) (fun c hc => ?_);refine TotP.chk (by rw [Lr]; omega) ?_;refine TotP.bind (J2 _ _ h.props) (fun d hd => ?_);exact TotP.chk (by rw [Lr]; simp only [Lh]; omega) (.ret (by simp only [Lh]; omega))
theorem Qm1 (v : Int) : Any (fun N => Vm N v p) := by
 have hs : ∀ a b, Any (fun N => V9 N a b) := fun a b => by
  unfold V9 Yc Xh
  repeat' first
   | exact TotP.ret trivial
   | refine TotP.cond (fun _ => ?_) (fun _ => ?_)
   | refine TotP.bindE (.of fun _ => rfl) ?_
 have hk : ∀ a b, Any (fun N => Vy N a b) := fun a b => by
  unfold Vy
  repeat' first
   | exact TotP.ret trivial
   | refine TotP.cond (fun _ => ?_) (fun _ => ?_)
   | refine TotP.bind (by first | exact hs _ _) (fun _ _ => ?_)
 unfold Vm
 repeat' first
  | exact TotP.ret trivial
  | refine TotP.cond (fun _ => ?_) (fun _ => ?_)
  | refine TotP.bind (by first | exact hk _ _ | exact hs _ _ | exact Qaq _ _ | exact Q56 h _ | exact Qbg h _) (fun _ _ => ?_)
theorem Ql9 (v : Int) : TotP (fun N => Uf N v p) (fun r => r.1.length ≤ 10000000000) := by
 unfold Uf;refine TotP.bind (Qm1 h v) (fun a _ => ?_);refine TotP.cond (fun _ => .ret (by simp)) (fun _ => ?_);refine TotP.bind (V := fun l => l.length ≤ 10000000000) ?_ (fun b hb => .ret hb);unfold G0;refine TotP.bind (J2 _ _ h.props) (fun d hd => ?_);refine TotP.cond (fun _ => .ret (by simp)) (fun _ => ?_);refine TotP.cond (fun _ => .ret (by simp)) (fun _ => ?_);refine TotP.cond (fun _ => .ret (by simp)) (fun _ => ?_);refine TotP.bind (Ua _ _) (fun b hb => ?_);refine TotP.cond (fun _ => ?_) (fun _ => ?_)
 ·exact TotP.chk (by rw [Lr]; omega) (.ret (by simp only [Lh]; omega))
 exact TotP.cond (fun _ => .ret (by omega)) (fun _ => .ret (by simp))
end
end
end Go.Av
namespace Go.Av
noncomputable section
theorem Qeh : ∀ (l : List UInt8) (c : UInt8) (n : Nat), Q5v l c n ≤ n + l.length
 | [], _, n => Lo _
 | b :: l, c, n => by
  unfold Q5v;split
  ·have := Qeh l c (n + 1); simp only [Lm]; omega
  have := Qeh l c n; simp only [Lm]; omega
theorem Qev : ∀ (l : List UInt8) (c : UInt8) (i : Nat), Qad l c i = -1 ∨ ∃ k : Nat, Qad l c i = (k : Int) ∧ i ≤ k ∧ k < i + l.length
 | [], _, i => .inl rfl
 | b :: l, c, i => by
  unfold Qad;split
  ·exact .inr ⟨i, rfl, Lo _, by simp⟩
  rcases Qev l c (i + 1) with h | ⟨k, h1, h2, h3⟩
  ·exact .inl h
  exact .inr ⟨k, h1, by omega, by simp only [Lm]; omega⟩
def Qpp (s : List UInt8) (N n : Nat) (p : List UInt8 × Int × List (List UInt8)) : Option (List (List UInt8)) := Y9 N s n p.1 p.2.1 p.2.2
theorem Qh3 (s : List UInt8) (hs : s.length ≤ 70000) : TotP (fun N => Ue N s) (fun l => l.length ≤ 70001 ∧ ∀ x ∈ l, x.length ≤ 70000) := by
 unfold Ue;refine TotP.cond (fun h => by rw [Q5r] at h; exact absurd (of_decide_eq_true h) (by simp)) (fun _ => ?_);obtain ⟨c, hcd⟩ : ∃ c, Q5v s (UInt8.ofNat (Int.toNat 47)) 0 = c := ⟨_, rfl⟩;have hc := Qeh s (UInt8.ofNat (Int.toNat 47)) 0;rw [hcd] at hc ⊢;have e1 : wrap .i64 ((s.length : Int) + 1) = (s.length : Int) + 1 := w64 _ (by omega);have e2 : wrap .i64 ((c : Int) + 1) = (c : Int) + 1 := w64 _ (by omega)
 have hn : (ifB (decide (wrap .i64 ((s.length : Int) + 1) < wrap .i64 ((c : Int) + 1))) (wrap .i64 ((s.length : Int) + 1)) (wrap .i64 ((c : Int) + 1))) = ((c + 1 : Nat) : Int) := by
  rw [e1, e2, decide_eq_false (by omega)]; show (c : Int) + 1 = _; omega
 have hm : wrap .i64 (((c + 1 : Nat) : Int) - 1) = (c : Int) := by rw [w64 _ (by omega)]; omega
 rw [hn];refine TotP.chk (by simp only [La, decide_eq_true_eq]; omega) ?_;have := Q9n (L := Qpp s) (Q := fun l => l.length ≤ 70001 ∧ ∀ x ∈ l, x.length ≤ 70000) (fun p => p.1.length ≤ s.length ∧ ∃ i : Nat, p.2.1 = (i : Int) ∧ i ≤ c ∧ p.2.2.length = c + 1 ∧ ∀ x ∈ p.2.2, x.length ≤ 70000) (fun p => c - p.2.1.toNat)
  ?_ (s, 0, List.replicate (((c + 1 : Nat) : Int).toNat) []) ⟨Lo _, 0, rfl, by omega, by simp, fun x hx => by simp at hx; simp [hx]⟩
 ·exact this
 rintro ⟨t, j, l⟩ ⟨ht, i, hi, hic, hl, hx⟩
 simp only at ht hi hl hx
 subst hi
 have hset : ∀ (y : List UInt8), y.length ≤ 70000 → ∀ x ∈ l.set (Int.toNat (i : Int)) y, x.length ≤ 70000 := fun y hy x hxm => by
  rcases List.mem_or_eq_of_mem_set hxm with h | h
  ·exact hx x h
  rw [h]; exact hy
 have ei : wrap .i64 ((i : Int) + 1) = ((i + 1 : Nat) : Int) := by rw [w64 _ (by omega)]; omega
 have fin : Stp (Qpp s) (fun p => (p.1.length ≤ s.length ∧ ∃ i : Nat, p.2.1 = (i : Int) ∧ i ≤ c ∧ p.2.2.length = c + 1 ∧ ∀ x ∈ p.2.2, x.length ≤ 70000) ∧ c - p.2.1.toNat < c - (i : Int).toNat) (fun l => l.length ≤ 70001 ∧ ∀ x ∈ l, x.length ≤ 70000)
   (fun (_ : Nat) (_ : Nat) => (idx (l : List (List UInt8)) (i : Int)).bind fun _ => cond (decide (0 ≤ (wrap .i64 ((i : Int) + 1)))) (cond (Nat.ble 0 ((wrap .i64 ((i : Int) + 1)).toNat) && Nat.ble ((wrap .i64 ((i : Int) + 1)).toNat) l.length) (some ((((l : List (List UInt8)).set (Int.toNat (i : Int)) t) : List (List UInt8)).take ((wrap .i64 ((i : Int) + 1)).toNat))) none) none) := by
  rw [ei];refine Stp.idx (Ze (show i < l.length by omega)) ?_;refine Stp.chk (by rw [decide_eq_true_eq]; omega) ?_;refine Stp.chk (by simp only [La, Lr, Mk]; omega) ?_;exact Stp.ret ⟨by rw [Mc, Nk]; omega, fun x hxm => hset t (by omega) x (Bm hxm)⟩
 show Stp _ _ _ (fun N n => cond (Q7 .lss (i : Int) (wrap .i64 ((ifB (decide (wrap .i64 ((s.length : Int) + 1) < wrap .i64 ((Q5v s (UInt8.ofNat (Int.toNat 47)) 0 : Int) + 1))) (wrap .i64 ((s.length : Int) + 1)) (wrap .i64 ((Q5v s (UInt8.ofNat (Int.toNat 47)) 0 : Int) + 1))) - 1))) _ _);rw [hcd, hn, hm, Zf];refine Stp.cond (fun h => ?_) (fun _ => fin);have h := of_decide_eq_true h
 have go : ∀ (t' y : List UInt8), t'.length ≤ s.length → y.length ≤ 70000 → Stp (Qpp s) (fun p => (p.1.length ≤ s.length ∧ ∃ i : Nat, p.2.1 = (i : Int) ∧ i ≤ c ∧ p.2.2.length = c + 1 ∧ ∀ x ∈ p.2.2, x.length ≤ 70000) ∧ c - p.2.1.toNat < c - (i : Int).toNat) (fun l => l.length ≤ 70001 ∧ ∀ x ∈ l, x.length ≤ 70000)
   (fun N n => Y9 N s n t' (wrap .i64 ((i : Int) + 1)) (l.set (Int.toNat (i : Int)) y)) := fun t' y h1 h2 => by
  rw [ei];exact Stp.go (L := Qpp s) (t', ((i + 1 : Nat) : Int), l.set (Int.toNat (i : Int)) y) ⟨⟨h1, i + 1, rfl, by omega, by rw [Nk]; exact hl, hset y h2⟩, by simp only [Mk]; omega⟩
 refine Stp.cond (fun h2 => ?_) (fun _ => ?_)
 ·rw [Q5r] at h2;have h2 := of_decide_eq_true h2;refine Stp.idx (Ze (show i < l.length by omega)) ?_;refine Stp.chk (by rw [← h2]; rfl) ?_;exact go _ _ (by simp only [Mp, Mc]; omega) (by simp)
 refine Stp.bind (f := fun N => Qf N t 47) (V := fun v => v = Qad t (UInt8.ofNat (Int.toNat 47)) 0) ⟨_, rfl, .of fun _ => rfl⟩ (fun v hv => ?_);rw [Zf]
 rcases Qev t (UInt8.ofNat (Int.toNat 47)) 0 with h3 | ⟨k, h3, _, h4⟩
 ·rw [hv, h3];exact Stp.cond (fun _ => fin) (fun h => nomatch h)
 rw [hv, h3, decide_eq_false (by omega)]
 have k0 : wrap .i64 ((k : Int) + 0) = (k : Int) := by rw [w64 _ (by omega)]; omega
 have k1 : wrap .i64 ((k : Int) + 1) = ((k + 1 : Nat) : Int) := by rw [w64 _ (by omega)]; omega
 refine Stp.cond (fun h => nomatch h) (fun _ => ?_);rw [k0, k1];refine Stp.chk (by rw [decide_eq_true_eq]; omega) ?_;refine Stp.chk (by simp only [La, Lr, Mk]; omega) ?_;refine Stp.idx (Ze (show i < l.length by omega)) ?_;refine Stp.chk (by rw [decide_eq_true_eq]; omega) ?_;refine Stp.chk (by simp only [La, Lr, Mk]; omega) ?_;exact go _ _ (by simp only [Mp, Mc]; omega) (by simp only [Mp, Mc]; omega)
end
end Go.Av
namespace Go.Av
noncomputable section
theorem Qgm (s : List UInt8) (hs : s.length ≤ 70000) : TotP (fun N => W2 N s) (fun l => l.length ≤ 80000) := by
 refine TotP.bind (Ua _ _) (fun v hv => ?_);exact TotP.chk (by rw [Lr]; omega) (.ret (by simp only [Lh]; omega))
theorem Qg4 (s : List UInt8) (hs : s.length ≤ 2000) : TotP (fun N => Vc N s) (fun r => r.1.length ≤ 80000) := by
 unfold Vc;refine TotP.bindE (Q2i s) ?_;refine TotP.cond (fun _ => .ret (by simp)) (fun _ => ?_);exact TotP.bind (Qgm s (by omega)) (fun v hv => .ret hv)
theorem ml7 : 70000 ≤ maxLen := by unfold maxLen; decide
theorem Qh9 (l : List (List UInt8)) (h1 : l.length ≤ 70001) (h2 : ∀ x ∈ l, x.length ≤ 70000) : Any (fun N => Uh N l) := by
 have hm := ml7
 have hw : ∀ s, Any (fun N => Vi N s) := fun s => by
  unfold Vi
  repeat' first
   | exact TotP.ret trivial
   | refine TotP.cond (fun _ => ?_) (fun _ => ?_)
 unfold Uh;refine Q5l (L := fun N n i => Ql N l n i) l.length (fun _ => True) (fun i hi _ => ?_) (fun _ => ?_) trivial
 ·show Stp _ _ _ (fun N n => cond (Q7 .lss (i : Int) ((Q6 cS l).length : Int)) _ _);rw [Qa, Zf];refine Stp.cond (fun _ => ?_) (fun _ => Stp.ret trivial);refine Stp.idx (Ze hi) ?_;have hx := h2 _ (Mx hi)
  have hg : Stp (fun N n i => Ql N l n i) (fun s => s = ((i + 1 : Nat) : Int) ∧ True) (fun _ => True) (fun N n => Ql N l n (wrap .i64 ((i : Int) + 1))) := by
   rw [w64 _ (by omega)];exact Stp.go (L := fun N n i => Ql N l n i) _ ⟨by omega, trivial⟩
  have hc : Any (fun N => Z3 N l[i]) := Q2h (Q71 _ (by omega))
  have ht : Stp (fun N n i => Ql N l n i) (fun s => s = ((i + 1 : Nat) : Int) ∧ True) (fun _ => True) (fun N n => (Vi N l[i]).bind fun v => cond (!v) ((Z3 N l[i]).bind fun w => cond w (some false) (Ql N l n (wrap .i64 ((i : Int) + 1)))) (Ql N l n (wrap .i64 ((i : Int) + 1)))) := by
   refine Stp.bind (hw _) (fun _ _ => Stp.cond (fun _ => ?_) (fun _ => hg));exact Stp.bind hc (fun _ _ => Stp.cond (fun _ => Stp.ret trivial) (fun _ => hg))
  exact Stp.cond (fun _ => Stp.cond (fun _ => Stp.ret trivial) (fun _ => ht)) (fun _ => ht)
 show Stp _ _ _ (fun N n => cond (Q7 .lss (l.length : Int) ((Q6 cS l).length : Int)) _ _);rw [Qa, Zf, decide_eq_false (by omega)];exact Stp.ret trivial
theorem Q9p (s : List UInt8) (hs : s.length ≤ 70000) : Any (fun N => Xo N s) := by
 unfold Xo;refine TotP.bindE (Qf9 s) ?_;refine TotP.cond (fun _ => ?_) (fun _ => .ret trivial);refine TotP.bind (Qh3 s hs) (fun l hl => ?_);exact TotP.bind (Qh9 l hl.1 hl.2) (fun _ _ => .ret trivial)
theorem Qnx (s t : List UInt8) : TotP (fun N => Xx N s t) (fun r => r.1.length ≤ s.length) := by
 unfold Xx;refine TotP.bind (V := fun r => r.1.length ≤ s.length) ?_ (fun v hv => .ret hv);unfold Zq;refine TotP.bind (V := fun v => v = true → t.length ≤ s.length) ?_ (fun v hv => ?_)
 ·unfold Zr;rw [Q13];refine TotP.cond (fun h => ?_) (fun _ => .ret (fun h => nomatch h));have h := of_decide_eq_true h;exact TotP.chk (by simp only [La, Lr]; omega) (.ret (fun _ => by omega))
 refine TotP.cond (fun _ => .ret (Lo _)) (fun h => ?_);have h := hv (by simpa using h);exact TotP.chk (by simp only [La, Lr]; omega) (.ret (by simp only [Mp, Mc]; omega))
theorem Qgk (s : List UInt8) (hs : s.length ≤ 70000) : Any (fun N => Um N s) := by
 have hm := ml7;unfold Um;refine TotP.bind (Qnx _ _) (fun v hv => ?_);obtain ⟨t, b⟩ := v;dsimp only at hv ⊢;have hN : ∀ a b, Any (fun N => Y8 N ((t.take a).drop b)) := fun a b => Q2h (Q7j _ (by simp only [Mp, Mc]; omega));have hF : ∀ a b, Any (fun N => Xo N ((t.take a).drop b)) := fun a b => Q9p _ (by simp only [Mp, Mc]; omega);have hV : ∀ s, Any (fun N => Qx N s) := fun s => Q2h (Q2i s);rw [Q5r];refine TotP.cond (fun h => ?_) (fun _ => ?_)
 ·have h := of_decide_eq_true h;refine TotP.chk (by rw [← h]; rfl) ?_
  repeat' first
   | exact TotP.ret trivial
   | refine TotP.cond (fun _ => ?_) (fun _ => ?_)
   | refine TotP.bind (by first | exact hV _ | exact hN _ _ | exact hF _ _) (fun _ _ => ?_)
 refine TotP.bind (f := fun N => Qf N t 47) (V := fun v => v = Qad t (UInt8.ofNat (Int.toNat 47)) 0) ⟨_, rfl, .of fun _ => rfl⟩ (fun v hv2 => ?_);rw [Q13]
 rcases Qev t (UInt8.ofNat (Int.toNat 47)) 0 with h3 | ⟨k, h3, _, h4⟩
 ·rw [hv2, h3];exact TotP.cond (fun h => absurd (of_decide_eq_true h) (by omega)) (fun _ => TotP.cond (fun _ => .ret trivial) (fun _ => .ret trivial))
 rw [hv2, h3]
 have k1 : wrap .i64 ((k : Int) + 1) = ((k + 1 : Nat) : Int) := by rw [w64 _ (by omega)]; omega
 rw [k1];refine TotP.cond (fun _ => ?_) (fun _ => ?_)
 ·refine TotP.chk (by rw [decide_eq_true_eq]; omega) ?_;refine TotP.chk (by simp only [La, Lr, Mk]; omega) ?_;refine TotP.chk (by rw [decide_eq_true_eq]; omega) ?_;refine TotP.chk (by simp only [La, Lr, Mk]; omega) ?_
  repeat' first
   | exact TotP.ret trivial
   | refine TotP.cond (fun _ => ?_) (fun _ => ?_)
   | refine TotP.bind (by first | exact hV _ | exact hN _ _ | exact hF _ _) (fun _ _ => ?_)
 exact TotP.cond (fun _ => .ret trivial) (fun _ => .ret trivial)
theorem Qkk (l : List Q1) (hl : l.length ≤ 30) (id : Int) : Any (fun N => Gy N l id) := by
 unfold Gy;refine Q5l (L := fun N n i => V0 N l id n i) l.length (fun _ => True) (fun i hi _ => ?_) (fun _ => ?_) trivial
 ·show Stp _ _ _ (fun N n => cond (Q7 .lss (i : Int) ((Q6 Q1.cells l).length : Int)) _ _);refine Stp.cond (fun _ => ?_) (fun _ => Stp.ret trivial);refine Stp.idx (Ze hi) ?_;refine Stp.cond (fun _ => Stp.ret trivial) (fun _ => ?_);rw [w64 _ (by omega)];exact Stp.go (L := fun N n i => V0 N l id n i) _ ⟨by omega, trivial⟩
 show Stp _ _ _ (fun N n => cond (Q7 .lss (l.length : Int) ((Q6 Q1.cells l).length : Int)) _ _);rw [Qa, Zf, decide_eq_false (by omega)];exact Stp.ret trivial
section
variable {p : Q3} (h : Qhr p)
include h
theorem Qlh (v : Int) : Any (fun N => Vk N v p) := by
 have hm := ml2;have ht := h.topic
 have h1 : Any (fun N => Vo N v) := by
  unfold Vo
  repeat' first
   | exact TotP.ret trivial
   | refine TotP.cond (fun _ => ?_) (fun _ => ?_)
 have h2 : ∀ b e, Any (fun N => Yb N b e) := fun b e => by
  unfold Yb
  repeat' first
   | exact TotP.ret trivial
   | refine TotP.cond (fun _ => ?_) (fun _ => ?_)
 have h3 : Any (fun N => Uy N v p) := by
  unfold Uy Q0s Q0w Q0q
  have a1 : Any (fun N => cond (Q7 .eql v 4) (some true) (some (Q7 .eql v 5))) := by
   repeat' first
    | exact TotP.ret trivial
    | refine TotP.cond (fun _ => ?_) (fun _ => ?_)
  have a2 : Any (fun (N : Nat) => cond (Q7 .eql v 5) (cond (Q7 .geq p.Kind 1) (some (Q7 .leq p.Kind 15)) (some false)) (cond (Q7 .geq p.Kind 1) (some (Q7 .leq p.Kind 14)) (some false))) := by
   repeat' first
    | exact TotP.ret trivial
    | refine TotP.cond (fun _ => ?_) (fun _ => ?_)
  have a3 : Any (fun (N : Nat) => cond (Q7 .eql p.Kind 6) (some (2 : Int)) (cond (Q7 .eql p.Kind 8) (some 2) (cond (Q7 .eql p.Kind 10) (some 2) (some 0)))) := by
   repeat' first
    | exact TotP.ret trivial
    | refine TotP.cond (fun _ => ?_) (fun _ => ?_)
  repeat' first
   | exact TotP.ret trivial
   | refine TotP.cond (fun _ => ?_) (fun _ => ?_)
   | refine TotP.bind (by first | exact a1 | exact a2 | exact a3) (fun _ _ => ?_)
 have h4 : Any (fun N => W3 N v p) := by
  unfold W3
  repeat' first
   | exact TotP.ret trivial
   | refine TotP.cond (fun _ => ?_) (fun _ => ?_)
   | refine TotP.bind (by first | exact Q56 h _) (fun _ _ => ?_)
 have h5 : Any (fun N => Wm N v p) := by
  unfold Wm Jb;have b1 : Any (fun N => (Gy N p.Props 35).bind fun v1 => some ((wrap .i64 v1.1.N'), v1.2)) := TotP.bind (Qkk _ h.props.len _) (fun _ _ => .ret trivial);have b2 : Any (fun N => Y8 N p.Topic) := Q2h (Q7j _ (by omega))
  repeat' first
   | exact TotP.ret trivial
   | refine TotP.cond (fun _ => ?_) (fun _ => ?_)
   | refine TotP.bind (by first | exact b1 | exact b2) (fun _ _ => ?_)
 unfold Vk
 repeat' first
  | exact TotP.ret trivial
  | refine TotP.cond (fun _ => ?_) (fun _ => ?_)
  | refine TotP.bind (by first | exact h1 | exact h2 _ _ | exact h3 | exact h4 | exact h5 | exact Qbg h _) (fun _ _ => ?_)
theorem Qld (v : Int) : TotP (fun N => Un N v p) (fun r => r.1.length ≤ 10000000000) := by
 have ht := h.topic; have hp := h.payload;unfold Un;refine TotP.bind (Qlh h v) (fun a _ => ?_);refine TotP.cond (fun _ => .ret (by simp)) (fun _ => ?_);refine TotP.bind (Qg4 _ h.topic) (fun b hb => ?_);refine TotP.cond (fun _ => ?_) (fun _ => ?_)
 ·refine TotP.bind (Ua _ _) (fun c hc => ?_);refine TotP.chk (by rw [Lr]; omega) ?_;refine TotP.cond (fun _ => ?_) (fun _ => ?_)
  ·refine TotP.bind (J2 _ _ h.props) (fun d hd => ?_);refine TotP.chk (by rw [Lr]; simp only [Lh]; omega) ?_;exact TotP.chk (by rw [Lr]; simp only [Lh]; omega) (.ret (by simp only [Lh]; omega))
  exact TotP.chk (by rw [Lr]; simp only [Lh]; omega) (.ret (by simp only [Lh]; omega))
 refine TotP.cond (fun _ => ?_) (fun _ => ?_)
 ·refine TotP.bind (J2 _ _ h.props) (fun d hd => ?_);refine TotP.chk (by rw [Lr]; omega) ?_;exact TotP.chk (by rw [Lr]; simp only [Lh]; omega) (.ret (by simp only [Lh]; omega))
 exact TotP.chk (by rw [Lr]; omega) (.ret (by simp only [Lh]; omega))
end
end
end Go.Av
namespace Go.Av
noncomputable section
theorem Qmm : ∀ l : List (List UInt8), (l.intersperse []).flatten = l.flatten
 | [] => rfl
 | [_] => rfl
 | x :: y :: zs => by
  rw [List.intersperse_cons_cons];show x ++ ([] ++ ((y :: zs).intersperse []).flatten) = x ++ (y :: zs).flatten;rw [Qmm (y :: zs)]; rfl
theorem Qql (l : List (List UInt8)) : Go.Lib.join l [] = l.flatten := Qmm l
theorem Jy (K : Nat) (l : List (List UInt8)) (h1 : l.length ≤ 10) (hK : K ≤ 100000000000) (h2 : l.flatten.length ≤ K) : TotP (fun N => Y0 N l) (fun r => r.length ≤ K) := by
 show TotP (fun N => Option.bind (cond _ (some _) none) _) _;rw [Qql]
 have : (Nat.ble l.length 140737488355328 && Nat.ble l.flatten.length 140737488355328) = true := by
  rw [La, Lr, Lr]; omega
 rw [this];exact .ret h2
theorem Jd (s : List UInt8) : TotP (fun N => Zx N s) (fun r => r.length ≤ 65551) := TotP.bind (Q6c s) (fun _ h => .ret h)
theorem Qd5 (v k : Int) (l : List Q1) (h : OkP l) : TotP (fun N => Vd N v k l) (fun r => r.length ≤ 9000000000) := by
 unfold Vd;exact TotP.cond (fun _ => .ret (by simp)) (fun _ => TotP.bind (J2 k l h) (fun _ h => .ret h))
theorem Qif (p : Q3) : Any (fun N => Vv N p) := by
 unfold Vv;refine TotP.cond (fun _ => .ret trivial) (fun _ => ?_);refine Q9n (L := fun N n (q : Int × Int) => Za N p n q.1 q.2) (Q := fun _ => True) (fun q => ∃ i : Nat, q.2 = (i : Int) ∧ i ≤ 5) (fun q => 5 - q.2.toNat) ?_ ((Q1l .i64 (Gm .i64 p.Will.QoS 3) 3), 0) ⟨0, rfl, by omega⟩
 rintro ⟨o, s⟩ ⟨i, hs, hi⟩
 simp only at hs
 subst hs;show Stp _ _ _ (fun N n => cond (Q7 .lss (i : Int) 5) _ _);rw [Zf];refine Stp.cond (fun h => ?_) (fun _ => Stp.ret trivial);have h := of_decide_eq_true h
 have e1 : wrap .i64 ((i : Int) + 1) = ((i + 1 : Nat) : Int) := by rw [w64 _ (by omega)]; omega
 rw [e1]
 have g : ∀ o' : Int, Stp (fun N n (q : Int × Int) => Za N p n q.1 q.2) (fun s' => (∃ i : Nat, s'.2 = (i : Int) ∧ i ≤ 5) ∧ 5 - s'.2.toNat < 5 - (i : Int).toNat) (fun _ => True) (fun N n => Za N p n o' ((i + 1 : Nat) : Int)) := fun o' =>
  Stp.go (L := fun N n (q : Int × Int) => Za N p n q.1 q.2) (o', ((i + 1 : Nat) : Int)) ⟨⟨i + 1, rfl, by omega⟩, by simp only [Mk]; omega⟩
 refine Stp.idx (Ze (by show i < 5; omega)) ?_;refine Stp.cond (fun _ => ?_) (fun _ => ?_)
 ·exact g _
 exact g _
section
variable {p : Q3} (h : Qhr p)
include h
theorem Qkq (v : Int) : Any (fun N => Vh N v p) := by
 have hm := ml2;have ht := h.wtopic
 have h1 : Any (fun N => Vs N v) := by
  unfold Vs
  repeat' first
   | exact TotP.ret trivial
   | refine TotP.cond (fun _ => ?_) (fun _ => ?_)
 have h2 : Any (fun N => Uj N p.Kind) := by
  unfold Uj
  repeat' first
   | exact TotP.ret trivial
   | refine TotP.cond (fun _ => ?_) (fun _ => ?_)
 have h3 : Any (fun N => Vq N p) := by
  unfold Vq
  repeat' first
   | exact TotP.ret trivial
   | refine TotP.cond (fun _ => ?_) (fun _ => ?_)
   | refine TotP.bind (by first | exact Q56 h _) (fun _ _ => ?_)
 have h4 : Any (fun N => Vj N p.Code) := by
  unfold Vj
  repeat' first
   | exact TotP.ret trivial
   | refine TotP.cond (fun _ => ?_) (fun _ => ?_)
 have h5 : Any (fun N => V8 N v p) := by
  unfold V8
  repeat' first
   | exact TotP.ret trivial
   | refine TotP.cond (fun _ => ?_) (fun _ => ?_)
   | refine TotP.bind (by first | exact Qaq _ _ | exact h4) (fun _ _ => ?_)
 have hV : ∀ s, Any (fun N => Qx N s) := fun s => Q2h (Q2i s);have hN : Any (fun N => Y8 N p.Will.Topic) := Q2h (Q7j _ (by omega));unfold Vh
 repeat' first
  | exact TotP.ret trivial
  | refine TotP.cond (fun _ => ?_) (fun _ => ?_)
  | refine TotP.bind (by first | exact h1 | exact h2 | exact h3 | exact h5 | exact hV _ | exact hN | exact Q6g _ _ h.props | exact Q6g _ _ h.wprops) (fun _ _ => ?_)
theorem Qlq (v : Int) : TotP (fun N => Ui N v p) (fun r => r.1.length ≤ 30000000000) := by
 unfold Ui;refine TotP.bind (Qkq h v) (fun a _ => ?_);refine TotP.cond (fun _ => .ret (by simp)) (fun _ => ?_);refine TotP.bind (Qd5 v p.Kind _ h.props) (fun t ht => ?_);refine TotP.cond (fun _ => ?_) (fun _ => ?_)
 ·refine TotP.cond (fun _ => ?_) (fun _ => ?_)
  ·refine TotP.bind (Ua _ _) (fun b hb => ?_);exact TotP.bind (Jy 30000000000 _ (by simp) (by omega) (by simp only [Mb, Mt, Lh, Lm, Mj]; omega)) (fun c hc => .ret hc)
  refine TotP.bind (Ua _ _) (fun b hb => ?_);exact TotP.bind (Jy 30000000000 _ (by simp) (by omega) (by simp only [Mb, Mt, Lh, Lm, Mj]; omega)) (fun c hc => .ret hc)
 refine TotP.bind (Ua _ _) (fun b hb => ?_);refine TotP.bind (Qif p) (fun f _ => ?_);refine TotP.bind (Ua _ _) (fun c hc => ?_);refine TotP.bind (Ua _ _) (fun d hd => ?_);refine TotP.bind (Jd _) (fun e he => ?_);refine TotP.bind (Jy 10000000000 _ (by simp) (by omega) (by simp only [Mb, Mt, Lh, Lm, Mj]; omega)) (fun x hx => ?_);refine TotP.cond (fun _ => ?_) (fun _ => ?_)
 ·refine TotP.bind (Qd5 v 16 _ h.wprops) (fun b2 hb2 => ?_);refine TotP.bind (Jd _) (fun c2 hc2 => ?_);refine TotP.bind (Jd _) (fun d2 hd2 => ?_);refine TotP.bind (Jy 20000000000 _ (by simp) (by omega) (by simp only [Mb, Mt, Lh, Lm, Mj]; omega)) (fun y hy => ?_);refine TotP.cond (fun _ => ?_) (fun _ => ?_)
  ·refine TotP.bind (Jd _) (fun b3 hb3 => ?_);refine TotP.bind (Jy 20100000000 _ (by simp) (by omega) (by simp only [Mb, Mt, Lh, Lm, Mj]; omega)) (fun z hz => ?_);refine TotP.cond (fun _ => ?_) (fun _ => .ret (by dsimp only; omega));refine TotP.bind (Jd _) (fun b4 hb4 => ?_);exact TotP.bind (Jy 30000000000 _ (by simp) (by omega) (by simp only [Mb, Mt, Lh, Lm, Mj]; omega)) (fun c hc => .ret hc)
  refine TotP.cond (fun _ => ?_) (fun _ => .ret (by dsimp only; omega));refine TotP.bind (Jd _) (fun b4 hb4 => ?_);exact TotP.bind (Jy 30000000000 _ (by simp) (by omega) (by simp only [Mb, Mt, Lh, Lm, Mj]; omega)) (fun c hc => .ret hc)
 refine TotP.cond (fun _ => ?_) (fun _ => ?_)
 ·refine TotP.bind (Jd _) (fun b3 hb3 => ?_);refine TotP.bind (Jy 20100000000 _ (by simp) (by omega) (by simp only [Mb, Mt, Lh, Lm, Mj]; omega)) (fun z hz => ?_);refine TotP.cond (fun _ => ?_) (fun _ => .ret (by dsimp only; omega));refine TotP.bind (Jd _) (fun b4 hb4 => ?_);exact TotP.bind (Jy 30000000000 _ (by simp) (by omega) (by simp only [Mb, Mt, Lh, Lm, Mj]; omega)) (fun c hc => .ret hc)
 refine TotP.cond (fun _ => ?_) (fun _ => .ret (by dsimp only; omega));refine TotP.bind (Jd _) (fun b4 hb4 => ?_);exact TotP.bind (Jy 30000000000 _ (by simp) (by omega) (by simp only [Mb, Mt, Lh, Lm, Mj]; omega)) (fun c hc => .ret hc)
end
end
end Go.Av
namespace Go.Av
noncomputable section
section
variable {p : Q3} (h : Qhr p)
include h
theorem Ql3 (v : Int) : Any (fun N => Wb N v p) := by
 have h1 : Any (fun N => Yx N p.Kind) := by
  unfold Yx
  repeat' first
   | exact TotP.ret trivial
   | refine TotP.cond (fun _ => ?_) (fun _ => ?_)
 have h2 : Any (fun N => Xb N v p.Kind) := by
  unfold Xb
  repeat' first
   | exact TotP.ret trivial
   | refine TotP.cond (fun _ => ?_) (fun _ => ?_)
 unfold Wb
 repeat' first
  | exact TotP.ret trivial
  | refine TotP.cond (fun _ => ?_) (fun _ => ?_)
  | refine TotP.bind (by first | exact h1 | exact h2 | exact Q56 h _) (fun _ _ => ?_)
end
theorem Qkl (v k : Int) (f : Q2) (hf : f.Topic.length ≤ 2000) : Any (fun N => Xs N v k f) := by
 have h1 : ∀ n, Any (fun N => Yu N n) := fun n => by
  unfold Yu
  repeat' first
   | exact TotP.ret trivial
   | refine TotP.cond (fun _ => ?_) (fun _ => ?_)
 unfold Xs
 repeat' first
  | exact TotP.ret trivial
  | refine TotP.cond (fun _ => ?_) (fun _ => ?_)
  | refine TotP.bind (by first | exact h1 _ | exact Qgk _ (by omega)) (fun _ _ => ?_)
theorem Ql0 (v k c : Int) : Any (fun N => Xw N v k c) := by
 have h1 : Any (fun N => Ug N c) := by
  unfold Ug
  repeat' first
   | exact TotP.ret trivial
   | refine TotP.cond (fun _ => ?_) (fun _ => ?_)
 unfold Xw
 repeat' first
  | exact TotP.ret trivial
  | refine TotP.cond (fun _ => ?_) (fun _ => ?_)
  | refine TotP.bind (by first | exact h1 | exact Qaq _ _) (fun _ _ => ?_)
section
variable {p : Q3} (h : Qhr p)
include h
theorem Qlv (v : Int) : Any (fun N => Ws N v p) := by
 have h1 : Any (fun N => Wn N v p.Kind) := by
  unfold Wn
  repeat' first
   | exact TotP.ret trivial
   | refine TotP.cond (fun _ => ?_) (fun _ => ?_)
 have h2 : Any (fun N => Zi N v p N 0) := by
  have hl := h.codes;refine Q5l (L := fun N n i => Zi N v p n i) p.Codes.length (fun _ => True) (fun i hi _ => ?_) (fun _ => ?_) trivial
  ·show Stp _ _ _ (fun N n => cond (Q7 .lss (i : Int) ((Q6 (cI .i64) p.Codes).length : Int)) _ _);refine Stp.cond (fun _ => ?_) (fun _ => Stp.ret trivial);refine Stp.idx (Ze hi) ?_;refine Stp.bind (Ql0 _ _ _) (fun _ _ => ?_);refine Stp.cond (fun _ => Stp.ret trivial) (fun _ => ?_);rw [w64 _ (by omega)];exact Stp.go (L := fun N n i => Zi N v p n i) _ ⟨by omega, trivial⟩
  show Stp _ _ _ (fun N n => cond (Q7 .lss (p.Codes.length : Int) ((Q6 (cI .i64) p.Codes).length : Int)) _ _);rw [Qa, Zf, decide_eq_false (by omega)];exact Stp.ret trivial
 have h3 : Any (fun N => Zh N v p N 0) := by
  have hl := h.filters.1;refine Q5l (L := fun N n i => Zh N v p n i) p.Filters.length (fun _ => True) (fun i hi _ => ?_) (fun _ => ?_) trivial
  ·show Stp _ _ _ (fun N n => cond (Q7 .lss (i : Int) ((Q6 Q2.cells p.Filters).length : Int)) _ _);refine Stp.cond (fun _ => ?_) (fun _ => Stp.fin h2);refine Stp.idx (Ze hi) ?_;have hf := h.filters.2 _ (Mx hi);refine Stp.bind (Q9p _ (by omega)) (fun _ _ => ?_);refine Stp.cond (fun _ => Stp.ret trivial) (fun _ => ?_);refine Stp.bind (Qkl _ _ _ hf) (fun _ _ => ?_);refine Stp.cond (fun _ => Stp.ret trivial) (fun _ => ?_);rw [w64 _ (by omega)];exact Stp.go (L := fun N n i => Zh N v p n i) _ ⟨by omega, trivial⟩
  show Stp _ _ _ (fun N n => cond (Q7 .lss (p.Filters.length : Int) ((Q6 Q2.cells p.Filters).length : Int)) _ _);rw [Qa, Zf, decide_eq_false (by omega)];exact Stp.fin h2
 unfold Ws
 repeat' first
  | exact h3
  | exact TotP.ret trivial
  | refine TotP.cond (fun _ => ?_) (fun _ => ?_)
  | refine TotP.bind (by first | exact h1 | exact Ql3 h v | exact Qbg h _ | exact h3) (fun _ _ => ?_)
theorem Qi7 (l : List Int) (hl : l.length ≤ 21000000000) : Any (fun N => Zv N p N 0 l) := by
 have hc := h.codes;refine Q9n (L := fun N n (q : Int × List Int) => Zv N p n q.1 q.2) (Q := fun _ => True) (fun q => ∃ i : Nat, q.1 = (i : Int) ∧ i ≤ p.Codes.length ∧ q.2.length ≤ 21000000000 + i) (fun q => p.Codes.length - q.1.toNat) ?_ (0, l) ⟨0, rfl, by omega, hl⟩
 rintro ⟨s, l⟩ ⟨i, hs, hi, hl⟩
 simp only at hs hl
 subst hs;show Stp _ _ _ (fun N n => cond (Q7 .lss (i : Int) ((Q6 (cI .i64) p.Codes).length : Int)) _ _);rw [Qa, Zf];dsimp only;refine Stp.cond (fun h => ?_) (fun _ => Stp.ret trivial);have h := of_decide_eq_true h;refine Stp.idx (Ze (show i < p.Codes.length by omega)) ?_;refine Stp.chk (by rw [Lr]; omega) ?_
 have e1 : wrap .i64 ((i : Int) + 1) = ((i + 1 : Nat) : Int) := by rw [w64 _ (by omega)]; omega
 rw [e1];exact Stp.go (L := fun N n (q : Int × List Int) => Zv N p n q.1 q.2) (((i + 1 : Nat) : Int), l ++ [_]) ⟨⟨i + 1, rfl, by omega, by simp only [Lh, Lm, Mj]; omega⟩, by simp only [Mk]; omega⟩
theorem Q8q (l : List Int) (hl : l.length ≤ 20000000000) : Any (fun N => Qm N p N 0 l) := by
 have hc := h.filters.1;refine Q9n (L := fun N n (q : Int × List Int) => Qm N p n q.1 q.2) (Q := fun _ => True) (fun q => ∃ i : Nat, q.1 = (i : Int) ∧ i ≤ p.Filters.length ∧ q.2.length ≤ 20000000000 + i * 80001) (fun q => p.Filters.length - q.1.toNat) ?_ (0, l) ⟨0, rfl, by omega, by simpa using hl⟩
 rintro ⟨s, l⟩ ⟨i, hs, hi, hl⟩
 simp only at hs hl
 subst hs;show Stp _ _ _ (fun N n => cond (Q7 .lss (i : Int) ((Q6 Q2.cells p.Filters).length : Int)) _ _);rw [Qa, Zf];dsimp only;refine Stp.cond (fun hx => ?_) (fun _ => Stp.fin (Qi7 h l (by omega)));have hx := of_decide_eq_true hx
 have hi : i < p.Filters.length := by omega
 refine Stp.idx (Ze hi) ?_;have hf := h.filters.2 _ (Mx hi);generalize p.Filters[i] = y at hf
 have e1 : wrap .i64 ((i : Int) + 1) = ((i + 1 : Nat) : Int) := by rw [w64 _ (by omega)]; omega
 have ho : Any (fun N => Yv N y) := by
  unfold Yv
  repeat' first
   | exact TotP.ret trivial
   | refine TotP.cond (fun _ => ?_) (fun _ => ?_)
 have go : ∀ (o' : List Int), o'.length ≤ 20000000000 + (i + 1) * 80001 → Stp (fun N n (q : Int × List Int) => Qm N p n q.1 q.2) (fun s' => (∃ i : Nat, s'.1 = (i : Int) ∧ i ≤ p.Filters.length ∧ s'.2.length ≤ 20000000000 + i * 80001) ∧ p.Filters.length - s'.1.toNat < p.Filters.length - (i : Int).toNat) (fun _ => True) (fun N n => Qm N p n (wrap .i64 ((i : Int) + 1)) o') := by
  intro o' h2;rw [e1];exact Stp.go (L := fun N n (q : Int × List Int) => Qm N p n q.1 q.2) (((i + 1 : Nat) : Int), o') ⟨⟨i + 1, rfl, by omega, h2⟩, by simp only [Mk]; omega⟩
 refine Stp.bind (Qg4 _ hf) (fun t ht => ?_);refine Stp.cond (fun _ => ?_) (fun _ => ?_)
 ·refine Stp.cond (fun _ => ?_) (fun _ => go l (Na hl (Nat.add_le_add_left (Ni _ (Nat.le_succ i)) _)));refine Stp.bind ho (fun o _ => ?_);exact Stp.chk (by rw [Lr]; omega) (go _ (by simp only [Lh, Lm, Mj]; omega))
 refine Stp.chk (by rw [Lr]; omega) ?_;refine Stp.cond (fun _ => ?_) (fun _ => go _ (by simp only [Lh, Ly]; omega));refine Stp.bind ho (fun o _ => ?_);exact Stp.chk (by rw [Lr]; omega) (go _ (by simp only [Lh, Lm, Mj, Ly]; omega))
theorem Qki (v : Int) : Any (fun N => V6 N v p) := by
 unfold V6;refine TotP.bind (Qlv h v) (fun a _ => ?_);refine TotP.cond (fun _ => .ret trivial) (fun _ => ?_);refine TotP.bind (Ua _ _) (fun b hb => ?_);refine TotP.cond (fun _ => ?_) (fun _ => Q8q h _ (by rw [Ly]; omega));refine TotP.bind (J2 _ _ h.props) (fun d hd => ?_);refine TotP.cond (fun _ => Q8q h _ (by rw [Ly]; omega)) (fun _ => ?_);exact TotP.chk (by rw [Lr]; omega) (Q8q h _ (by rw [Lh, Ly, Ly]; omega))
theorem Qkg (v : Int) : Any (fun N => Ge N v p) := by
 have b1 : Any (fun N => Yk N ⟨v, p⟩) := by
  unfold Yk;exact TotP.bind (Qlq h v) (fun _ _ => .ret trivial)
 have b2 : Any (fun N => Xg N ⟨v, p⟩) := by
  unfold Xg;exact TotP.bind (Qld h v) (fun _ _ => .ret trivial)
 have b3 : Any (fun N => Yo N ⟨v, p⟩) := by
  unfold Yo;exact TotP.bind (Ql8 h v) (fun _ _ => .ret trivial)
 have b4 : Any (fun N => Z8 N ⟨v, p⟩) := by
  unfold Z8;exact TotP.bind (Qki h v) (fun _ _ => .ret trivial)
 have b5 : Any (fun N => Zj N ⟨v, p⟩) := by
  unfold Zj;exact TotP.bind (Ql9 h v) (fun _ _ => .ret trivial)
 have j0 : ∀ b, Any (fun N => Vb N v p b) := fun b => by
  unfold Vb
  repeat' first
   | exact TotP.ret trivial
   | refine TotP.cond (fun _ => ?_) (fun _ => ?_)
   | refine TotP.bind (by first | exact b1 | exact b2 | exact b3 | exact b4 | exact b5) (fun _ _ => ?_)
 unfold Ge Q1o;refine TotP.bind (V := fun _ => True) (TotP.cond (fun _ => j0 _) (fun _ => j0 _)) (fun _ _ => .ret trivial)
end
end
end Go.Av
namespace Go.Av
noncomputable section
section
end
section

end
section

end
structure OkM (m : Qfx) : Prop where
 nm : m.Name.length ≤ 70000
 da : m.Data.length ≤ 70000
section
variable {m : Qfx} (h : OkM m)
include h
end
section
variable {m : Qfx} (h : OkM m)
include h
end
section
end
end
end Go.Av
namespace Go.Av
noncomputable section
theorem Qi0 (p : Q3) (h1 : p.Filters.length ≤ maxLen) (h2 : p.Props.length ≤ maxLen) (h3 : p.Will.Props.length ≤ maxLen) : TotP (fun N => X5 N p) (fun v => v = true → Qhr p) := by
 have hm := Q5k
 have h30 : 300 ≤ maxLen := by unfold maxLen; decide
 have tail : (p.Filters.length ≤ 30 → ∀ f ∈ p.Filters, f.Topic.length ≤ 2000) → TotP (fun N => cond (Q7 .leq (p.Topic.length : Int) 2000) (cond (Q7 .leq (p.Payload.length : Int) 2000) (cond (Q7 .leq (p.Client.length : Int) 2000) (cond (Q7 .leq (p.User.length : Int) 2000) (cond (Q7 .leq (p.Pass.length : Int) 2000)
  (cond (Q7 .leq (p.Will.Topic.length : Int) 2000) (cond (Q7 .leq (p.Will.Payload.length : Int) 2000) (cond (Q7 .leq ((Q6 (cI .i64) p.Codes).length : Int) 30) (cond (Q7 .leq (p.Filters.length : Int) 30)
  ((Qv N p.Props).bind fun v26 => cond v26 ((Qv N p.Will.Props).bind fun v29 => some v29) (some false)) (some false)) (some false)) (some false)) (some false)) (some false)) (some false)) (some false)) (some false)) (some false)) (fun v => v = true → Qhr p) := by
  intro hf;rw [Qa]
  iterate 9 refine TotP.cond (fun _ => ?_) (fun _ => .ret (fun h => nomatch h))
  rename_i a1 a2 a3 a4 a5 a6 a7 a8 a9;rw [Q1y] at a1 a2 a3 a4 a5 a6 a7 a8 a9;have a1 := of_decide_eq_true a1; have a2 := of_decide_eq_true a2; have a3 := of_decide_eq_true a3;have a4 := of_decide_eq_true a4; have a5 := of_decide_eq_true a5; have a6 := of_decide_eq_true a6;have a7 := of_decide_eq_true a7; have a8 := of_decide_eq_true a8; have a9 := of_decide_eq_true a9;refine TotP.bind (Qd4 _ h2) (fun v hv => TotP.cond (fun hv1 => ?_) (fun _ => .ret (fun h => nomatch h)));refine TotP.bind (Qd4 _ h3) (fun w hw => .ret (fun hw1 => ?_));have g1 := hv hv1; have g2 := hw hw1;exact ⟨⟨by omega, by omega, by omega, by omega⟩, ⟨g1.1, fun x hx => Na (g1.2 x hx).1 h30⟩, ⟨g2.1, fun x hx => Na (g2.2 x hx).1 h30⟩, by omega, by omega, by omega, by omega, by omega, by omega, by omega, by omega, by omega, hf (by omega)⟩
 refine Q5l (L := fun N n s => Qy N p n s) p.Filters.length (fun i => ∀ j (h : j < p.Filters.length), j < i → (p.Filters[j]).Topic.length ≤ 2000) (fun i hi hj => ?_) (fun hj => ?_) (fun j _ hj => by omega)
 ·show Stp _ _ _ (fun N n => cond (Q7 .lss (i : Int) ((Q6 Q2.cells p.Filters).length : Int)) _ _);rw [Qa, Zf];refine Stp.cond (fun _ => ?_) (fun h => by have := of_decide_eq_false h; omega);refine Stp.cond (fun _ => ?_) (fun h => Stp.fin (tail (fun hc => ?_)))
  ·refine Stp.idx (Ze hi) ?_;rw [Qbo];refine Stp.cond (fun _ => Stp.ret (fun h => nomatch h)) (fun h1 => ?_);have h1 := of_decide_eq_false h1;rw [w64 _ (by omega)];refine Stp.go (L := fun N n s => Qy N p n s) _ ⟨by omega, fun j hj' hji => ?_⟩
   by_cases e : j = i
   ·subst e; omega
   exact hj j hj' (by omega)
  rw [Zf] at h; have := of_decide_eq_false h; omega
 show Stp _ _ _ (fun N n => cond (Q7 .lss (p.Filters.length : Int) ((Q6 Q2.cells p.Filters).length : Int)) _ _);rw [Qa, Zf];refine Stp.cond (fun h => by have := of_decide_eq_true h; omega) (fun _ => Stp.fin (tail (fun _ f hf => ?_)));obtain ⟨j, hj', rfl⟩ := Br hf;exact hj j hj' hj'
theorem Q2l (N : Nat) (s : List Q1) (h : s.length ≤ 100000) : J0 N s = some s := by
 unfold J0
 cases s with
 | nil => rfl
 | cons x s =>
  have e : Nat.beq (x :: s).length 0 = false := rfl
  have e2 : Nat.ble ((0 + (x :: s).length + 4096) * 48) 17592186044416 = true := by rw [Lr]; omega
  rw [e, e2]; rfl
theorem Qeu (N : Nat) (s : List Q1g) (h : s.length ≤ 100000) : Q26 N s = some s := by
 unfold Q26
 cases s with
 | nil => rfl
 | cons x s =>
  have e : Nat.beq (x :: s).length 0 = false := rfl
  have e2 : Nat.ble ((0 + (x :: s).length + 4096) * 24) 17592186044416 = true := by rw [Lr]; omega
  rw [e, e2]; rfl
theorem Qe1 (N : Nat) (s : List Int) (h : s.length ≤ 100000) : Q25 N s = some s := by
 unfold Q25
 cases s with
 | nil => rfl
 | cons x s =>
  have e : Nat.beq (x :: s).length 0 = false := rfl
  have e2 : Nat.ble ((0 + (x :: s).length + 4096) * 8) 17592186044416 = true := by rw [Lr]; omega
  rw [e, e2]; rfl
theorem Q9j (N : Nat) (s : List Q2) (h : s.length ≤ 100000) : Jz N s = some s := by
 unfold Jz
 cases s with
 | nil => rfl
 | cons x s =>
  have e : Nat.beq (x :: s).length 0 = false := rfl
  have e2 : Nat.ble ((0 + (x :: s).length + 4096) * 40) 17592186044416 = true := by rw [Lr]; omega
  rw [e, e2]; rfl
theorem Qdy (N : Nat) (p : Q3) (h : Qhr p) : Q00 N p = some p := by
 have h1 := h.codes; have h2 := h.filters.1; have h3 := h.props.len; have h4 := h.wprops.len;unfold Q00;rw [Qe1 N _ (by omega), Q9j N _ (by omega), Q2l N _ (by omega), Q2l N _ (by omega)];rfl
end
end Go.Av
namespace Go.Av
noncomputable section
section
variable {R S T A : Type}
theorem TotP.succ {f g : Nat → Option R} {Q : R → Prop} (e : ∀ N, f (N + 1) = g N) (h : TotP g Q) : TotP f Q := by
 obtain ⟨r, hr, N0, hN⟩ := h;refine ⟨r, hr, N0 + 1, fun N h => ?_⟩;obtain ⟨M, rfl⟩ : ∃ M, N = M + 1 := ⟨N - 1, by omega⟩;rw [e]; exact hN M (by omega)
end
end
end Go.Av
namespace Go.Av
noncomputable section
section
variable {T : Type}
theorem Qbk {L : Nat → Nat → Int → Option Bool} {l : List T} (hl : l.length ≤ 100000) (Qh : ∀ i (hi : i < l.length), Stp (fun N n s => L N n s) (fun s => s = ((i + 1 : Nat) : Int) ∧ True) (· = true) (fun N n => L N (n + 1) (i : Int)))
  (fin : Stp (fun N n s => L N n s) (fun _ => False) (· = true) (fun N n => L N (n + 1) (l.length : Int))) : TotP (fun N => L N N 0) (· = true) :=
 Q5l (L := L) l.length (fun _ => True) (fun i hi _ => Qh i hi) (fun _ => fin) trivial
end
theorem Q7t (l : List Q1) (hl : l.length ≤ 100000) : TotP (fun N => Yj N l l) (· = true) := by
 refine TotP.cond (fun h => absurd h (by rw [Q11]; simp)) (fun _ => ?_);refine Qbk (L := fun N n s => Zd N l l n s) hl (fun i hi => ?_) ?_
 ·show Stp _ _ _ (fun N n => cond (Q7 .lss (i : Int) ((Q6 Q1.cells l).length : Int)) _ _);refine Stp.cond (fun _ => Stp.idx (Ze hi) (Stp.idx (Ze hi) (Stp.cond (fun h => absurd h (by simp)) (fun _ => ?_)))) (fun h => absurd h (by rw [Qa, Zf]; simp [hi]));rw [w64 _ (by omega)];exact Stp.go (L := fun N n s => Zd N l l n s) _ ⟨by omega, trivial⟩
 show Stp _ _ _ (fun N n => cond (Q7 .lss (l.length : Int) ((Q6 Q1.cells l).length : Int)) _ _);exact Stp.cond (fun h => absurd h (by rw [Qa, Zf]; simp)) (fun _ => Stp.ret rfl)
theorem Qj9 (l : List Int) (hl : l.length ≤ 100000) : TotP (fun N => Wk N l l) (· = true) := by
 refine TotP.cond (fun h => absurd h (by rw [Q11]; simp)) (fun _ => ?_);refine Qbk (L := fun N n s => Zc N l l n s) hl (fun i hi => ?_) ?_
 ·show Stp _ _ _ (fun N n => cond (Q7 .lss (i : Int) ((Q6 (cI .i64) l).length : Int)) _ _);refine Stp.cond (fun _ => Stp.idx (Ze hi) (Stp.idx (Ze hi) (Stp.cond (fun h => absurd h (by rw [Q11]; simp)) (fun _ => ?_)))) (fun h => absurd h (by rw [Qa, Zf]; simp [hi]));rw [w64 _ (by omega)];exact Stp.go (L := fun N n s => Zc N l l n s) _ ⟨by omega, trivial⟩
 show Stp _ _ _ (fun N n => cond (Q7 .lss (l.length : Int) ((Q6 (cI .i64) l).length : Int)) _ _);exact Stp.cond (fun h => absurd h (by rw [Qa, Zf]; simp)) (fun _ => Stp.ret rfl)
theorem Qck (l : List Q2) (hl : l.length ≤ 100000) : TotP (fun N => Xn N l l) (· = true) := by
 refine TotP.cond (fun h => absurd h (by rw [Q11]; simp)) (fun _ => ?_);refine Qbk (L := fun N n s => Z4 N l l n s) hl (fun i hi => ?_) ?_
 ·show Stp _ _ _ (fun N n => cond (Q7 .lss (i : Int) ((Q6 Q2.cells l).length : Int)) _ _);refine Stp.cond (fun _ => Stp.idx (Ze hi) (Stp.idx (Ze hi) (Stp.cond (fun h => absurd h (by simp)) (fun _ => ?_)))) (fun h => absurd h (by rw [Qa, Zf]; simp [hi]));rw [w64 _ (by omega)];exact Stp.go (L := fun N n s => Z4 N l l n s) _ ⟨by omega, trivial⟩
 show Stp _ _ _ (fun N n => cond (Q7 .lss (l.length : Int) ((Q6 Q2.cells l).length : Int)) _ _);exact Stp.cond (fun h => absurd h (by rw [Qa, Zf]; simp)) (fun _ => Stp.ret rfl)
structure Qjy (p : Q3) : Prop where
 codes : p.Codes.length ≤ 100000
 filters : p.Filters.length ≤ 100000
 props : p.Props.length ≤ 100000
 wprops : p.Will.Props.length ≤ 100000
theorem Qj1 (s : List UInt8) : Gp .neq s s = false := by rw [Qln]; simp
theorem Qjc (s : Int) : Q7 .neq s s = false := by rw [Q11]; simp
theorem Qej (p : Q3) (h : Qjy p) : TotP (fun N => Y2 N p p) (· = true) := by
 unfold Y2;simp only [Qj1, Qjc, beq_self_eq_true, Bi, cond_false];refine TotP.bind (Q7t _ h.wprops) (fun v hv => ?_);subst hv;simp only [Bi, cond_false];refine TotP.bind (Qj9 _ h.codes) (fun v hv => ?_);subst hv;simp only [cond_true];refine TotP.bind (Qck _ h.filters) (fun v hv => ?_);subst hv;simp only [cond_true];exact TotP.bind (Q7t _ h.props) (fun v hv => .ret hv)
theorem Qeg (N : Nat) (p : Q3) (h : Qjy p) : Xi N p = some p := by
 have h1 := h.codes; have h2 := h.filters; have h3 := h.props; have h4 := h.wprops
 have nb : ∀ {T : Type} (c : T → List PV) (l : List T) (k : Nat), l.length ≤ 100000 → k ≤ 100 → Nat.ble ((0 + (Q6 c l).length + 4096) * k) 17592186044416 = true := fun c l k a b => by
  rw [Qa, Lr]
  calc (0 + l.length + 4096) * k ≤ (0 + 100000 + 4096) * 100 := Nat.mul_le_mul (by omega) b
   _ ≤ 17592186044416 := by decide
 unfold Xi;simp only [nb (cI .i64) p.Codes 8 h1 (by decide), nb Q2.cells p.Filters 40 h2 (by decide), nb Q1.cells p.Props 48 h3 (by decide), nb Q1.cells p.Will.Props 48 h4 (by decide), List.nil_append, cond_true];obtain ⟨a0, a1, a2, a3, a4, a5, a6, a7, a8, a9, a10, a11, a12, a13, a14, ⟨w0, w1, w2, w3, w4⟩, a16, a17, c, f, q⟩ := p;cases c <;> cases f <;> cases q <;> cases w4 <;> rfl
def Qlp : Yn := ⟨0, 0, [], [], 0, false, false, 0, [], 0, [], 0, (⟨0, false, false, 0, 0, [], [], false, 0, [], false, [], false, [], false, (⟨[], [], 0, false, []⟩ : Xe), false, 0, [], [], []⟩ : Q3), (⟨0, (⟨false, 0, false, false, false, 0⟩ : Q3p), 0, 0, 0, false, 0, 0, 0, [], []⟩ : Qfx), (⟨0, 0, [], []⟩ : Vz)⟩
theorem Q6x (e : Yn) (hp : e.Props.length ≤ 100000) (hh : e.Hops.length ≤ 100000) (hk : Qhr e.Packet) (hv : e.Frame.Values = []) : Tot (fun N => Vw N e) e := by
 refine ⟨1, fun N hN => ?_⟩;obtain ⟨M, rfl⟩ : ∃ M, N = M + 1 := ⟨N - 1, by omega⟩;show Vw (M + 1) e = _;unfold Vw;rw [Q2l _ _ hp, Qeu _ _ hh, Qdy _ _ hk];simp only [Lj];obtain ⟨a0, a1, a2, a3, a4, a5, a6, a7, a8, a9, a10, a11, a12, a13, ⟨b0, b1, b2, b3⟩⟩ := e
 simp only at hv
 subst hv;rfl
end
end Go.Av
namespace Go.Av
noncomputable section
structure ToR (r : Yn × Int) : Prop where
 bad : r.2 ≠ 0 → r.1 = Qlp
 p : r.1.Props.length ≤ 100
 pp : r.1.Packet.Props.length ≤ 100
 pf : r.1.Packet.Filters.length ≤ 100
 pc : r.1.Packet.Codes.length ≤ 100
theorem ToR.zero (c : Int) : ToR (Qlp, c) := ⟨fun _ => rfl, Mh _, Mh _, Mh _, Mh _⟩
theorem Qqd : Qhr (⟨0, false, false, 0, 0, [], [], false, 0, [], false, [], false, [], false, (⟨[], [], 0, false, []⟩ : Xe), false, 0, [], [], []⟩ : Q3) := by
 constructor <;> first | exact Mh _ | decide | (intro x hx; cases hx) | (constructor <;> first | exact Mh _ | (intro x hx; cases hx))
theorem Qpa (v : Int) (p : Q3) (h : Qhr p) : TotP (fun N => W9 N v p) ToR := by
 have h1 := h.codes; have h2 := h.filters.1; have h3 := h.props.len;unfold W9;refine TotP.bind (V := fun _ => True) ?_ (fun a _ => ?_)
 ·exact TotP.cond (fun _ => .ret trivial) (fun _ => TotP.cond (fun _ => .ret trivial) (fun _ => .ret trivial))
 refine TotP.cond (fun _ => .ret (ToR.zero 2)) (fun _ => ?_);refine TotP.bind (Qkg h v) (fun c _ => ?_);refine TotP.cond (fun _ => .ret (ToR.zero c)) (fun _ => ?_);refine TotP.cond (fun _ => ?_) (fun _ => ?_)
 ·refine TotP.cond (fun _ => .ret (ToR.zero 11)) (fun _ => ?_);refine TotP.bindE (f := fun N => Xl N a.1 p) (.of fun _ => rfl) ?_;refine TotP.bindE (Q6x _ (by show p.Props.length ≤ _; omega) (Mh _) Qqd rfl) ?_;exact .ret ⟨fun h => absurd rfl h, by show p.Props.length ≤ _; omega, Mh _, Mh _, Mh _⟩
 refine TotP.bindE (f := fun N => Wd N a.1 p) (.of fun _ => rfl) ?_;refine TotP.bindE (Q6x _ (Mh _) (Mh _) (by show Qhr p; exact h) rfl) ?_;exact .ret ⟨fun h => absurd rfl h, Mh _, by show p.Props.length ≤ _; omega, by show p.Filters.length ≤ _; omega, by show p.Codes.length ≤ _; omega⟩
theorem Qkd (M : Nat) : Wi (M + 5) Qlp Qlp = some true := by kernel_rfl
theorem Qn3 (M : Nat) : Wa (M + 200) = some true := by kernel_rfl
theorem Qbe {T : Type} {L : Nat → Nat → Int × List T → Option Bool} (f : T → T) (l : List T) (hl : l.length ≤ 100)
  (Qh : ∀ N n (i : Nat) (l' : List T) (hi : i < l'.length), l'.length ≤ 100 → L N (n + 1) ((i : Int), l') = L N n (((i + 1 : Nat) : Int), l'.set i (f l'[i])))
  (fin : ∀ l' : List T, l'.length ≤ 100 → TotP (fun N => L N 1 ((l'.length : Int), l')) (· = true)) (hfin : ∀ N n (l' : List T), L N (n + 1) ((l'.length : Int), l') = L N 1 ((l'.length : Int), l')) :
  TotP (fun N => L N N ((0 : Nat), l)) (· = true) := by
 have key : ∀ k (i : Nat) (l' : List T), l'.length = l.length → l.length - i = k → i ≤ l.length → ∃ N0, ∀ N n, N0 ≤ N → k < n → L N n ((i : Int), l') = some true := by
  intro k
  induction k with
  | zero =>
   intro i l' h1 h2 h3;obtain ⟨r, hr, N0, hN⟩ := fin l' (by omega);subst hr;refine ⟨N0, fun N n h hn => ?_⟩;obtain ⟨m, rfl⟩ : ∃ m, n = m + 1 := ⟨n - 1, by omega⟩
   have : i = l'.length := by omega
   subst this;rw [hfin];exact hN N h
  | succ k ih =>
   intro i l' h1 h2 h3
   have hi : i < l'.length := by omega
   obtain ⟨N0, hN⟩ := ih (i + 1) (l'.set i (f l'[i])) (by rw [Nk]; exact h1) (by omega) (by omega);refine ⟨N0, fun N n h hn => ?_⟩;obtain ⟨m, rfl⟩ : ∃ m, n = m + 1 := ⟨n - 1, by omega⟩;rw [Qh N m i l' hi (by omega)];exact hN N m h (by omega)
 obtain ⟨N0, hN⟩ := key l.length 0 l rfl (by omega) (by omega);exact ⟨true, rfl, max N0 (l.length + 1), fun N h => hN N N (by omega) (by omega)⟩
theorem Q78 (n : Nat) : Q7 .lss (n : Int) (n : Int) = false := by rw [Zf]; simp
theorem Qb4 {i n : Nat} (h : i < n) : Q7 .lss (i : Int) (n : Int) = true := by rw [Zf]; simp [h]
theorem up1 {i : Nat} (h : i ≤ 100) : wrap .i64 ((i : Int) + 1) = ((i + 1 : Nat) : Int) := by rw [w64 _ (by omega)]; omega
section
variable (p q : Q3) (hq : TotP (fun N => Y2 N p q) (· = true))
include hq
theorem Qq2 (l : List Int) (hl : l.length ≤ 100) : TotP (fun N => Qs N p q N 0 l) (· = true) := by
 refine Qbe (L := fun N n s => Qs N p q n s.1 s.2) (fun y => wrap .i64 (y + 1)) l hl (fun N n i l' hi h1 => ?_) (fun l' h1 => ?_) (fun N n l' => ?_)
 ·show cond (Q7 .lss (i : Int) (l'.length : Int)) _ _ = _;rw [Qb4 hi, Ze hi, up1 (by omega)];rfl
 ·show TotP (fun N => cond (Q7 .lss (l'.length : Int) (l'.length : Int)) _ _) _;rw [Q78];exact TotP.bind hq (fun v hv => .ret hv)
 show cond (Q7 .lss (l'.length : Int) (l'.length : Int)) _ _ = cond (Q7 .lss (l'.length : Int) (l'.length : Int)) _ _;rw [Q78];rfl
variable (r : Yn × Int) (hr : ToR r)
include hr
theorem Qqg (l : List Q2) (hl : l.length ≤ 100) : TotP (fun N => Qr N p q r N 0 l) (· = true) := by
 refine Qbe (L := fun N n s => Qr N p q r n s.1 s.2) (fun y => (⟨[], y.QoS, y.NoLocal, y.AsPublished, y.Handling⟩ : Q2)) l hl (fun N n i l' hi h1 => ?_) (fun l' h1 => ?_) (fun N n l' => ?_)
 ·show cond (Q7 .lss (i : Int) (l'.length : Int)) _ _ = _;rw [Qb4 hi, Ze hi, up1 (by omega)];rfl
 ·show TotP (fun N => cond (Q7 .lss (l'.length : Int) (l'.length : Int)) _ _) _;rw [Q78];exact Qq2 p q hq _ hr.pc
 show cond (Q7 .lss (l'.length : Int) (l'.length : Int)) _ _ = cond (Q7 .lss (l'.length : Int) (l'.length : Int)) _ _;rw [Q78];rfl
theorem Qqt (l : List Q1) (hl : l.length ≤ 100) : TotP (fun N => Qt N p q r N 0 l) (· = true) := by
 refine Qbe (L := fun N n s => Qt N p q r n s.1 s.2) (fun y => (⟨y.ID, (wrap .u32 (y.N' + 1)), y.Text, y.Value⟩ : Q1)) l hl (fun N n i l' hi h1 => ?_) (fun l' h1 => ?_) (fun N n l' => ?_)
 ·show cond (Q7 .lss (i : Int) (l'.length : Int)) _ _ = _;rw [Qb4 hi, Ze hi, up1 (by omega)];rfl
 ·show TotP (fun N => cond (Q7 .lss (l'.length : Int) (l'.length : Int)) _ _) _;rw [Q78];exact Qqg p q hq r hr _ hr.pf
 show cond (Q7 .lss (l'.length : Int) (l'.length : Int)) _ _ = cond (Q7 .lss (l'.length : Int) (l'.length : Int)) _ _;rw [Q78];rfl
theorem Qq5 (l : List Q1) (hl : l.length ≤ 100) : TotP (fun N => Qp N p q r N 0 l) (· = true) := by
 refine Qbe (L := fun N n s => Qp N p q r n s.1 s.2) (fun y => (⟨y.ID, (wrap .u32 (y.N' + 1)), y.Text, y.Value⟩ : Q1)) l hl (fun N n i l' hi h1 => ?_) (fun l' h1 => ?_) (fun N n l' => ?_)
 ·show cond (Q7 .lss (i : Int) (l'.length : Int)) _ _ = _;rw [Qb4 hi, Ze hi, up1 (by omega)];rfl
 ·show TotP (fun N => cond (Q7 .lss (l'.length : Int) (l'.length : Int)) _ _) _;rw [Q78];exact Qqt p q hq r hr _ hr.pp
 show cond (Q7 .lss (l'.length : Int) (l'.length : Int)) _ _ = cond (Q7 .lss (l'.length : Int) (l'.length : Int)) _ _;rw [Q78];rfl
end
theorem Qja (v : Int) (p : Q3) (hp : Q8t p) : ∃ N, Zu N v p = some true := by
 have key : TotP (fun N => Zu N v p) (· = true) := by
  unfold Zu;refine TotP.bindE (v := true) ⟨200, fun N hN => by obtain ⟨M, rfl⟩ : ∃ M, N = M + 200 := ⟨N - 200, by omega⟩; exact Qn3 M⟩ ?_;refine TotP.cond (fun h => by cases h) (fun _ => ?_);refine TotP.bind (Qi0 p hp.Filters_ok.1 hp.Props_ok.1 hp.Will_ok.Props_ok.1) (fun s hs => ?_);refine TotP.cond (fun _ => .ret rfl) (fun g => ?_);have h := hs (by simpa using g);have h1 := h.codes; have h2 := h.filters.1; have h3 := h.props.len; have h4 := h.wprops.len;have sh : Qjy p := ⟨by omega, by omega, by omega, by omega⟩;refine TotP.bindE (v := p) (.of fun N => Qeg N p sh) ?_;refine TotP.bind (Qpa v p h) (fun r hr => ?_);rw [Q11];refine TotP.cond (fun g => ?_) (fun _ => Qq5 p p (Qej p sh) r hr _ hr.p);have := hr.bad (of_decide_eq_true g);rw [this];exact TotP.bindE (v := true) ⟨5, fun N hN => by obtain ⟨M, rfl⟩ : ∃ M, N = M + 5 := ⟨N - 5, by omega⟩; exact Qkd M⟩ (.ret rfl)
 obtain ⟨N, hN⟩ := key.tot;exact ⟨N, hN N (Lo _)⟩
end
end Go.Av
