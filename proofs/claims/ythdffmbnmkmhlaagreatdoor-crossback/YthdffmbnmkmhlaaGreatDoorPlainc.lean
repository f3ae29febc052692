/- Part of the proof of CrossBack: for every input the law returns true; no condition. -/
import Derived.Test.YthdffmbnmkmhlaaGreatDoorAvOwn
import Derived.Test.YthdffmbnmkmhlaaGreatDoorRound
import Derived.Test.YthdffmbnmkmhlaaGreatDoorLiftF3
import Derived.Test.YthdffmbnmkmhlaaGreatDoorPlainb
import Derived.Test.YthdffmbnmkmhlaaGreatDoorOks
import Derived.Test.YthdffmbnmkmhlaaGreatDoorOkX
open Go.IntKind (wrap)
namespace Go.Av
noncomputable section
section
variable {R A S T : Type}
def Tot (f : Nat → Option R) (r : R) : Prop := ∃ N0, ∀ N, N0 ≤ N → f N = some r
def TotP (f : Nat → Option R) (Q : R → Prop) : Prop := ∃ r, Q r ∧ Tot f r
theorem Tot.of {f : Nat → Option R} {r : R} (h : ∀ N, f N = some r) : Tot f r := ⟨0, fun N _ => h N⟩
theorem Tot.ret (r : R) : Tot (fun _ => some r) r := .of fun _ => rfl
theorem Tot.bind {f : Nat → Option A} {g : Nat → A → Option R} {v : A} {r : R} (h1 : Tot f v) (h2 : Tot (fun N => g N v) r) : Tot (fun N => (f N).bind (g N)) r := by
 obtain ⟨a, ha⟩ := h1;obtain ⟨b, hb⟩ := h2;exact ⟨max a b, fun N hN => by show (f N).bind (g N) = _; rw [ha N (by omega)]; exact hb N (by omega)⟩
theorem TotP.of {f : Nat → Option R} {r : R} {Q : R → Prop} (hq : Q r) (h : Tot f r) : TotP f Q := ⟨r, hq, h⟩
theorem TotP.ret {r : R} {Q : R → Prop} (h : Q r) : TotP (fun _ => some r) Q := ⟨r, h, .ret r⟩
theorem TotP.mono {f : Nat → Option R} {Q Q' : R → Prop} (h : TotP f Q) (hq : ∀ r, Q r → Q' r) : TotP f Q' := by
 obtain ⟨r, h1, h2⟩ := h; exact ⟨r, hq r h1, h2⟩
theorem TotP.tot {f : Nat → Option R} {r : R} (h : TotP f (· = r)) : Tot f r := by obtain ⟨x, rfl, h2⟩ := h; exact h2
theorem TotP.bind {f : Nat → Option A} {g : Nat → A → Option R} {V : A → Prop} {Q : R → Prop} (h1 : TotP f V) (h2 : ∀ v, V v → TotP (fun N => g N v) Q) : TotP (fun N => (f N).bind (g N)) Q := by
 obtain ⟨v, hv, t⟩ := h1;obtain ⟨r, hr, u⟩ := h2 v hv;exact ⟨r, hr, t.bind u⟩
theorem TotP.bindE {f : Nat → Option A} {g : Nat → A → Option R} {v : A} {Q : R → Prop} (h1 : Tot f v) (h2 : TotP (fun N => g N v) Q) : TotP (fun N => (f N).bind (g N)) Q := by
 obtain ⟨r, hr, u⟩ := h2;exact ⟨r, hr, h1.bind u⟩
theorem TotP.cond {b : Bool} {f g : Nat → Option R} {Q : R → Prop} (h1 : b = true → TotP f Q) (h2 : b = false → TotP g Q) : TotP (fun N => cond b (f N) (g N)) Q := by
 cases b
 ·exact h2 rfl
 exact h1 rfl
theorem TotP.chk {b : Bool} {f : Nat → Option R} {Q : R → Prop} (hb : b = true) (h : TotP f Q) : TotP (fun N => _root_.cond b (f N) none) Q := by subst hb; exact h
theorem TotP.idx {l : List T} {i : Int} {y : T} {g : Nat → T → Option R} {Q : R → Prop} (h : idx l i = some y) (h2 : TotP (fun N => g N y) Q) : TotP (fun N => (Go.Av.idx l i).bind (g N)) Q :=
 .bindE (.of fun _ => h) h2
theorem TotP.optC {o : Option T} {f : Nat → T → Option R} {z : Nat → Option R} {Q : R → Prop} (h1 : ∀ v, o = some v → TotP (fun N => f N v) Q) (h2 : o = none → TotP z Q) : TotP (fun N => Go.Av.optC o (f N) (z N)) Q := by
 cases o with
 | none => exact h2 rfl
 | some v => exact h1 v rfl
def Stp (L : Nat → Nat → S → Option R) (P : S → Prop) (Q : R → Prop) (f : Nat → Nat → Option R) : Prop :=
 (∃ r N0, Q r ∧ ∀ N n, N0 ≤ N → f N n = some r) ∨ ∃ s N0, P s ∧ ∀ N n, N0 ≤ N → f N n = L N n s
section
variable {L : Nat → Nat → S → Option R} {P : S → Prop} {Q : R → Prop}
theorem Stp.fin {f : Nat → Option R} (h : TotP f Q) : Stp L P Q (fun N _ => f N) := by
 obtain ⟨r, h1, N0, h2⟩ := h; exact .inl ⟨r, N0, h1, fun N _ hN => h2 N hN⟩
theorem Stp.ret {r : R} (h : Q r) : Stp L P Q (fun _ _ => some r) := .inl ⟨r, 0, h, fun _ _ _ => rfl⟩
theorem Stp.go (s : S) (h : P s) : Stp L P Q (fun N n => L N n s) := .inr ⟨s, 0, h, fun _ _ _ => rfl⟩
theorem Stp.bind {f : Nat → Option A} {g : Nat → Nat → A → Option R} {V : A → Prop} (h1 : TotP f V) (h2 : ∀ v, V v → Stp L P Q (fun N n => g N n v)) : Stp L P Q (fun N n => (f N).bind (g N n)) := by
 obtain ⟨v, hv, a, ha⟩ := h1
 rcases h2 v hv with ⟨r, b, hr, hb⟩ | ⟨s, b, hs, hb⟩
 ·exact .inl ⟨r, max a b, hr, fun N n hN => by show (f N).bind _ = _; rw [ha N (by omega)]; exact hb N n (by omega)⟩
 exact .inr ⟨s, max a b, hs, fun N n hN => by show (f N).bind _ = _; rw [ha N (by omega)]; exact hb N n (by omega)⟩
theorem Stp.idx {l : List T} {i : Int} {y : T} {g : Nat → Nat → T → Option R} (h : idx l i = some y) (h2 : Stp L P Q (fun N n => g N n y)) : Stp L P Q (fun N n => (Go.Av.idx l i).bind (g N n)) :=
 .bind (f := fun _ => Go.Av.idx l i) (V := (· = y)) ⟨y, rfl, .of fun _ => h⟩ (fun v hv => by subst hv; exact h2)
theorem Stp.cond {b : Bool} {f g : Nat → Nat → Option R} (h1 : b = true → Stp L P Q f) (h2 : b = false → Stp L P Q g) : Stp L P Q (fun N n => cond b (f N n) (g N n)) := by
 cases b
 ·exact h2 rfl
 exact h1 rfl
theorem Stp.chk {b : Bool} {f : Nat → Nat → Option R} (hb : b = true) (h : Stp L P Q f) : Stp L P Q (fun N n => _root_.cond b (f N n) none) := by subst hb; exact h
theorem Qtx (inv : S → Prop) (μ : S → Nat) (Qr : ∀ s, inv s → Stp L (fun s' => inv s' ∧ μ s' < μ s) Q (fun N n => L N (n + 1) s)) (s : S) (h : inv s) : TotP (fun N => L N N s) Q := by
 have key : ∀ (m : Nat) (s : S), μ s < m → inv s → ∃ r N0, Q r ∧ ∀ N n, N0 ≤ N → N0 ≤ n → L N n s = some r := by
  intro m
  induction m with
  | zero => intro s h; omega
  | succ m ih =>
   intro s hm hi
   rcases Qr s hi with ⟨r, N0, hr, hL⟩ | ⟨s', N0, ⟨h1, h2⟩, hL⟩
   ·refine ⟨r, N0 + 1, hr, fun N n h1 h2 => ?_⟩;obtain ⟨k, rfl⟩ : ∃ k, n = k + 1 := ⟨n - 1, by omega⟩;exact hL N k (by omega)
   obtain ⟨r, M0, hr, hM⟩ := ih s' (by omega) h1;refine ⟨r, max N0 M0 + 1, hr, fun N n h1 h2 => ?_⟩;obtain ⟨k, rfl⟩ : ∃ k, n = k + 1 := ⟨n - 1, by omega⟩;exact (hL N k (by omega)).trans (hM N k (by omega) (by omega))
 obtain ⟨r, N0, hr, hL⟩ := key (μ s + 1) s (by omega) h;exact ⟨r, hr, N0, fun N hN => hL N N hN hN⟩
end
theorem Qgn {L : Nat → Nat → Int → Option R} {Q : R → Prop} (m : Nat) (J : Nat → Prop) (Qr : ∀ i, i < m → J i → Stp L (fun s => s = ((i + 1 : Nat) : Int) ∧ J (i + 1)) Q (fun N n => L N (n + 1) (i : Int)))
  (fin : J m → Stp L (fun _ => False) Q (fun N n => L N (n + 1) (m : Int))) (h0 : J 0) : TotP (fun N => L N N 0) Q := by
 refine Qtx (S := Int) (fun s => ∃ i : Nat, s = (i : Int) ∧ i ≤ m ∧ J i) (fun s => m - s.toNat) ?_ 0 ⟨0, rfl, Mv _, h0⟩
 rintro s ⟨i, rfl, hi, hj⟩
 by_cases h : i < m
 ·rcases Qr i h hj with ⟨r, N0, hr, hL⟩ | ⟨s', N0, ⟨rfl, h2⟩, hL⟩
  ·exact .inl ⟨r, N0, hr, hL⟩
  exact .inr ⟨_, N0, ⟨⟨i + 1, rfl, h, h2⟩, by simp only [Ms]; omega⟩, hL⟩
 have : i = m := by omega
 subst this
 rcases fin hj with ⟨r, N0, hr, hL⟩ | ⟨s', N0, h2, hL⟩
 ·exact .inl ⟨r, N0, hr, hL⟩
 exact h2.elim
end
theorem Xb (x y : Int) : Q3 .lss x y = decide (x < y) := rfl
theorem Q69 (x y : Int) : Q3 .leq x y = decide (x ≤ y) := rfl
theorem Q2c (x y : Int) : Q3 .gtr x y = decide (x > y) := rfl
theorem Qiz (x y : Int) : Q3 .geq x y = decide (x ≥ y) := rfl
theorem Q0z (x y : Int) : Q3 .eql x y = decide (x = y) := by unfold Q3; by_cases h : x = y <;> simp [h]
theorem Vj (x y : Int) : Q3 .neq x y = decide (x ≠ y) := by unfold Q3; by_cases h : x = y <;> simp [h]
theorem w64 (x : Int) (h : -9223372036854775808 ≤ x ∧ x ≤ 9223372036854775807) : wrap .i64 x = x := IntWalk.i64_in x h
theorem Xz {T : Type} {l : List T} {i : Nat} (h : i < l.length) : idx l (i : Int) = some l[i] := La h
theorem Qa8 : maxLen ≤ 9223372036854775807 := by unfold maxLen; decide
end
end Go.Av
namespace Go.Av
noncomputable section
def at8 (s : List UInt8) (i : Nat) : Nat := (s.getD i 0).toNat
theorem Qpi (s : List UInt8) (i : Nat) : at8 s i < 256 := UInt8.toNat_lt _
theorem Qdc {s : List UInt8} {i : Nat} (h : i < s.length) : at8 s i = (s[i]).toNat := by simp [at8, h]
def goes (s : List UInt8) (i : Nat) : Prop := i < s.length ∧ 128 ≤ at8 s i ∧ at8 s i < 192
instance (s : List UInt8) (i : Nat) : Decidable (goes s i) := inferInstanceAs (Decidable (_ ∧ _))
def Qho (c : Nat) : Prop := ¬ (55296 ≤ c ∧ c ≤ 57343) ∧ c ≤ 1114111
instance (c : Nat) : Decidable (Qho c) := inferInstanceAs (Decidable (_ ∧ _))
def Qd2 (s : List UInt8) (i : Nat) : Nat × Nat :=
 if at8 s i < 128 then (at8 s i, 1)
 else if 192 ≤ at8 s i ∧ at8 s i < 224 ∧ goes s (i + 1) ∧ 128 ≤ 64 * (at8 s i - 192) + (at8 s (i + 1) - 128) then (64 * (at8 s i - 192) + (at8 s (i + 1) - 128), 2)
 else if 224 ≤ at8 s i ∧ at8 s i < 240 ∧ goes s (i + 1) ∧ goes s (i + 2) ∧ 2048 ≤ 64 * (64 * (at8 s i - 224) + (at8 s (i + 1) - 128)) + (at8 s (i + 2) - 128) ∧ Qho (64 * (64 * (at8 s i - 224) + (at8 s (i + 1) - 128)) + (at8 s (i + 2) - 128)) then
  (64 * (64 * (at8 s i - 224) + (at8 s (i + 1) - 128)) + (at8 s (i + 2) - 128), 3)
 else if 240 ≤ at8 s i ∧ at8 s i < 248 ∧ goes s (i + 1) ∧ goes s (i + 2) ∧ goes s (i + 3) ∧ 65536 ≤ 64 * (64 * (64 * (at8 s i - 240) + (at8 s (i + 1) - 128)) + (at8 s (i + 2) - 128)) + (at8 s (i + 3) - 128) ∧
   Qho (64 * (64 * (64 * (at8 s i - 240) + (at8 s (i + 1) - 128)) + (at8 s (i + 2) - 128)) + (at8 s (i + 3) - 128)) then
  (64 * (64 * (64 * (at8 s i - 240) + (at8 s (i + 1) - 128)) + (at8 s (i + 2) - 128)) + (at8 s (i + 3) - 128), 4)
 else (65533, 1)
theorem Qlw (c : Nat) : Utf8.valid (c : Int) = true ↔ Qho c := by
 unfold Utf8.valid Qho;simp only [Le, Mx, Ni, decide_eq_true_eq, decide_eq_false_iff_not];omega
theorem Qw3 (a b c d : Nat) (G1 G2 G3 : Prop) [Decidable G1] [Decidable G2] [Decidable G3] (h0 : a < 256) (q1 : G1 → 128 ≤ b ∧ b < 192) (q2 : G2 → 128 ≤ c ∧ c < 192) (q3 : G3 → 128 ≤ d ∧ d < 192) :
  (if a < 128 then (a, 1)
   else if (a / 32 == 6 && decide G1) = true then (if a % 32 * 64 + b % 64 ≥ 128 then (a % 32 * 64 + b % 64, 2) else (65533, 1))
   else if (a / 16 == 14 && decide G1 && decide G2) = true then (if (decide (a % 16 * 4096 + b % 64 * 64 + c % 64 ≥ 2048) && Utf8.valid ((a % 16 * 4096 + b % 64 * 64 + c % 64 : Nat) : Int)) = true then (a % 16 * 4096 + b % 64 * 64 + c % 64, 3) else (65533, 1))
   else if (a / 8 == 30 && decide G1 && decide G2 && decide G3) = true then (if (decide (a % 8 * 262144 + b % 64 * 4096 + c % 64 * 64 + d % 64 ≥ 65536) && Utf8.valid ((a % 8 * 262144 + b % 64 * 4096 + c % 64 * 64 + d % 64 : Nat) : Int)) = true then (a % 8 * 262144 + b % 64 * 4096 + c % 64 * 64 + d % 64, 4) else (65533, 1))
   else (65533, 1)) =
  (if a < 128 then (a, 1)
   else if 192 ≤ a ∧ a < 224 ∧ G1 ∧ 128 ≤ 64 * (a - 192) + (b - 128) then (64 * (a - 192) + (b - 128), 2)
   else if 224 ≤ a ∧ a < 240 ∧ G1 ∧ G2 ∧ 2048 ≤ 64 * (64 * (a - 224) + (b - 128)) + (c - 128) ∧ Qho (64 * (64 * (a - 224) + (b - 128)) + (c - 128)) then (64 * (64 * (a - 224) + (b - 128)) + (c - 128), 3)
   else if 240 ≤ a ∧ a < 248 ∧ G1 ∧ G2 ∧ G3 ∧ 65536 ≤ 64 * (64 * (64 * (a - 240) + (b - 128)) + (c - 128)) + (d - 128) ∧ Qho (64 * (64 * (64 * (a - 240) + (b - 128)) + (c - 128)) + (d - 128)) then
    (64 * (64 * (64 * (a - 240) + (b - 128)) + (c - 128)) + (d - 128), 4)
   else (65533, 1)) := by
 simp only [Le, decide_eq_true_eq, beq_iff_eq, Qlw, ge_iff_le];have e2 : ∀ x, Qho x = (¬ (55296 ≤ x ∧ x ≤ 57343) ∧ x ≤ 1114111) := fun x => rfl
 by_cases c1 : a < 128
 ·rw [if_pos c1, if_pos c1]
 rw [if_neg c1, if_neg c1]
 by_cases c2 : a < 192
 ·rw [if_neg (by omega), if_neg (by omega), if_neg (by omega), if_neg (by omega), if_neg (by omega), if_neg (by omega)]
 by_cases c3 : a < 224
 ·by_cases g1 : G1
  ·have := q1 g1
   have e : a % 32 * 64 + b % 64 = 64 * (a - 192) + (b - 128) := by omega
   rw [if_pos ⟨by omega, g1⟩, e]
   by_cases c4 : 128 ≤ 64 * (a - 192) + (b - 128)
   ·rw [if_pos c4, if_pos ⟨by omega, c3, g1, c4⟩]
   rw [if_neg c4, if_neg (fun h => c4 h.2.2.2), if_neg (by omega), if_neg (by omega)]
  rw [if_neg (fun h => g1 h.2), if_neg (by omega), if_neg (by omega), if_neg (fun h => g1 h.2.2.1), if_neg (by omega), if_neg (by omega)]
 rw [if_neg (by omega), if_neg (c := 192 ≤ a ∧ _) (by omega)]
 by_cases c5 : a < 240
 ·by_cases g : G1 ∧ G2
  ·have := q1 g.1;have := q2 g.2
   have e : a % 16 * 4096 + b % 64 * 64 + c % 64 = 64 * (64 * (a - 224) + (b - 128)) + (c - 128) := by omega
   rw [if_pos ⟨⟨by omega, g.1⟩, g.2⟩, e]
   by_cases c4 : 2048 ≤ 64 * (64 * (a - 224) + (b - 128)) + (c - 128) ∧ Qho (64 * (64 * (a - 224) + (b - 128)) + (c - 128))
   ·rw [if_pos c4, if_pos ⟨by omega, c5, g.1, g.2, c4⟩]
   rw [if_neg c4, if_neg (fun h => c4 h.2.2.2.2), if_neg (by omega)]
  rw [if_neg (fun h => g ⟨h.1.2, h.2⟩), if_neg (by omega), if_neg (fun h => g ⟨h.2.2.1, h.2.2.2.1⟩), if_neg (by omega)]
 rw [if_neg (by omega), if_neg (c := 224 ≤ a ∧ _) (by omega)]
 by_cases c6 : a < 248
 ·by_cases g : G1 ∧ G2 ∧ G3
  ·have := q1 g.1;have := q2 g.2.1;have := q3 g.2.2
   have e : a % 8 * 262144 + b % 64 * 4096 + c % 64 * 64 + d % 64 = 64 * (64 * (64 * (a - 240) + (b - 128)) + (c - 128)) + (d - 128) := by omega
   rw [if_pos ⟨⟨⟨by omega, g.1⟩, g.2.1⟩, g.2.2⟩, e]
   by_cases c4 : 65536 ≤ 64 * (64 * (64 * (a - 240) + (b - 128)) + (c - 128)) + (d - 128) ∧ Qho (64 * (64 * (64 * (a - 240) + (b - 128)) + (c - 128)) + (d - 128))
   ·rw [if_pos c4, if_pos ⟨by omega, c6, g.1, g.2.1, g.2.2, c4⟩]
   rw [if_neg c4, if_neg (fun h => c4 h.2.2.2.2.2)]
  rw [if_neg (fun h => g ⟨h.1.1.2, h.1.2, h.2⟩), if_neg (fun h => g ⟨h.2.2.1, h.2.2.2.1, h.2.2.2.2.1⟩)]
 rw [if_neg (by omega), if_neg (by omega)]
theorem Z31 (s : List UInt8) (j : Nat) : (decide (j < s.length) && (at8 s j / 64 == 2)) = decide (goes s j) := by
 have hk := Qpi s j
 by_cases hg : goes s j
 ·have h4 : at8 s j / 64 = 2 := by have := hg.2; omega
  simp [hg, hg.1, h4]
 simp only [hg, decide_false, Bool.and_eq_false_iff, decide_eq_false_iff_not]
 by_cases hl : j < s.length
 ·right;simp only [beq_eq_false_iff_ne, ne_eq]
  intro h4;exact hg ⟨hl, by omega, by omega⟩
 exact .inl hl
theorem Qof (s : List UInt8) (i : Nat) : Qca s i = Qd2 s i := by
 have u : ∀ j, (s.getD j 0).toNat = at8 s j := fun _ => rfl;have := Qw3 (at8 s i) (at8 s (i + 1)) (at8 s (i + 2)) (at8 s (i + 3)) (goes s (i + 1)) (goes s (i + 2)) (goes s (i + 3)) (Qpi _ _) (fun h => h.2) (fun h => h.2) (fun h => h.2);unfold Qd2;rw [← this];unfold Qca;simp only [Nx, u, Z31];rfl
theorem Qtv (s : List UInt8) (i : Nat) (h : i < s.length) : 1 ≤ (Qd2 s i).2 ∧ i + (Qd2 s i).2 ≤ s.length ∧ ((Qd2 s i).1 < 128 ↔ at8 s i < 128) ∧ (at8 s i < 128 → (Qd2 s i).1 = at8 s i ∧ (Qd2 s i).2 = 1) ∧
  (∀ k, 1 ≤ k → k < (Qd2 s i).2 → 128 ≤ at8 s (i + k)) ∧ Qho (Qd2 s i).1 := by
 have h0 := Qpi s i;unfold Qd2;split
 ·refine ⟨by simp, by simp; omega, by simp, fun _ => ⟨rfl, rfl⟩, fun k h1 h2 => by simp at h2; omega, by unfold Qho; simp; omega⟩
 split
 ·rename_i h1 h2;obtain ⟨_, _, g1, h3⟩ := h2;refine ⟨by simp, by simp; have := g1.1; omega, by simp; omega, fun h => by omega, fun k h4 h5 => ?_, by unfold Qho; simp only; have := g1.2; omega⟩
  have : k = 1 := by simp at h5; omega
  subst this; exact g1.2.1
 split
 ·rename_i h1 h2 h3;obtain ⟨_, _, g1, g2, h3, h6⟩ := h3;refine ⟨by simp, by simp; have := g2.1; omega, by simp; omega, fun h => by omega, fun k h4 h5 => ?_, h6⟩
  have : k = 1 ∨ k = 2 := by simp at h5; omega
  rcases this with rfl | rfl
  ·exact g1.2.1
  exact g2.2.1
 split
 ·rename_i h1 h2 h3 h4;obtain ⟨_, _, g1, g2, g3, h3, h6⟩ := h4;refine ⟨by simp, by simp; have := g3.1; omega, by simp; omega, fun h => by omega, fun k h4 h5 => ?_, h6⟩
  have : k = 1 ∨ k = 2 ∨ k = 3 := by simp at h5; omega
  rcases this with rfl | rfl | rfl
  ·exact g1.2.1
  ·exact g2.2.1
  exact g3.2.1
 rename_i h1 h2 h3 h4;exact ⟨by simp, by simp; omega, by simp; omega, fun h => by omega, fun k h4 h5 => by simp at h5; omega, by unfold Qho; simp⟩
def Qyz (s : List UInt8) (i : Nat) : Prop := Qd2 s i = (65533, 1)
instance (s : List UInt8) (i : Nat) : Decidable (Qyz s i) := inferInstanceAs (Decidable (_ = _))
def Qwb (s : List UInt8) (pos : Nat) : Option Nat :=
 if h : pos < s.length then (if (Qd2 s pos).1 = 0 ∨ Qyz s pos then some pos else Qwb s (pos + (Qd2 s pos).2)) else none
termination_by s.length - pos
decreasing_by have := (Qtv s pos h).1; omega
end
end Go.Av
namespace Go.Av
noncomputable section
open Go.Proofs
theorem Z0u {b : UInt8} {n : Nat} (h : b.toNat = n) (hn : n < 256) : b = UInt8.ofNat n := by
 apply UInt8.toNat_inj.1; rw [h]; simp [UInt8.toNat_ofNat]; omega
theorem Qs4 {s : List UInt8} {i : Nat} (hi : i < s.length) (hc : (Qd2 s i).1 = 65533) : (3 ≤ (s.drop i).length ∧ (s.drop i).take 3 = [239, 191, 189]) ↔ ¬ Qyz s i := by
 constructor
 ·rintro ⟨h1, h2⟩ hn
  have hl : i + 2 < s.length := by simp at h1; omega
  have g : ∀ k, k < 3 → s[i + k]? = ([239, 191, 189] : List UInt8)[k]? := by
   intro k hk;rw [← h2, Md, if_pos hk, Mk]
  have a0 : at8 s i = 239 := by have := g 0 (by omega); simp at this; simp [at8, List.getD_eq_getElem?_getD, this]
  have a1 : at8 s (i + 1) = 191 := by have := g 1 (by omega); simp at this; simp [at8, List.getD_eq_getElem?_getD, this]
  have a2 : at8 s (i + 2) = 189 := by have := g 2 (by omega); simp at this; simp [at8, List.getD_eq_getElem?_getD, this]
  have g1 : goes s (i + 1) := ⟨by omega, by omega, by omega⟩;have g2 : goes s (i + 2) := ⟨by omega, by omega, by omega⟩;unfold Qyz Qd2 at hn;rw [a0, a1, a2] at hn;simp [g1, g2, Qho] at hn
 intro hn;have h0 := Qpi s i;unfold Qyz at hn;unfold Qd2 at hn hc;split at hn
 ·rename_i h1; rw [if_pos h1] at hc; simp at hc; omega
 rename_i h1; rw [if_neg h1] at hc;split at hn
 ·rename_i h2;rw [if_pos h2] at hc;obtain ⟨_, _, g1, _⟩ := h2;have := g1.2; simp at hc; omega
 rename_i h2; rw [if_neg h2] at hc;split at hn
 ·rename_i h3;rw [if_pos h3] at hc;obtain ⟨_, _, g1, g2, _⟩ := h3;have b1 := g1.2;have b2 := g2.2;have l2 := g2.1
  simp only at hc
  have a0 : at8 s i = 239 := by omega
  have a1 : at8 s (i + 1) = 191 := by omega
  have a2 : at8 s (i + 2) = 189 := by omega
  rw [Qdc (by omega)] at a0 a1 a2;refine ⟨by simp; omega, ?_⟩;apply Ng;intro k;rw [Md]
  by_cases hk : k < 3
  ·rw [if_pos hk, Mk]
   have : k = 0 ∨ k = 1 ∨ k = 2 := by omega
   rcases this with rfl | rfl | rfl
   ·rw [Nx, La (by omega), Z0u a0 (by omega)]; rfl
   ·rw [La (by omega), Z0u a1 (by omega)]; rfl
   rw [La (by omega), Z0u a2 (by omega)]; rfl
  rw [if_neg hk]; simp; omega
 rename_i h3; rw [if_neg h3] at hc;split at hn
 ·rename_i h4;rw [if_pos h4] at hc;obtain ⟨_, _, g1, g2, g3, h5, h6⟩ := h4
  simp only at hc
  omega
 exact absurd rfl hn
theorem Qxe (N : Nat) (s : List UInt8) : Q05 N s = some (decide (3 ≤ s.length ∧ s.take 3 = [239, 191, 189])) := by
 unfold Q05;rw [Qiz]
 by_cases h : 3 ≤ s.length
 ·have h1 : decide ((s.length : Int) ≥ 3) = true := by simp; omega
  have h2 : (Nat.ble 0 3 && Nat.ble 3 s.length) = true := by simp [h]
  rw [h1, h2];simp only [cond_true, Mj, Q35]
  congr 1
  by_cases h3 : s.take 3 = [239, 191, 189] <;> simp [h, h3]
 have h1 : decide ((s.length : Int) ≥ 3) = false := by simp; omega
 rw [h1];simp [h]
def Z4v (o : Option Nat) : Int := match o with
 | some p => p
 | none => -1
theorem Z14 (s : List UInt8) : Tot (fun N => Q39 N s) (Z4v (Qwb s 0)) := by
 refine TotP.tot ?_;show TotP (fun N => V7 N s N 0) _;refine Qtx (L := fun N n (p : Nat) => V7 N s n p) (fun p => Qwb s p = Qwb s 0) (fun p => s.length - p) (fun p hp => ?_) 0 rfl;show Stp _ _ _ (fun N n => cond (Nat.blt p s.length) _ _);refine Stp.cond (fun h => ?_) (fun h => ?_)
 ·have hl : p < s.length := by simpa [Nat.blt_eq] using h
  rw [Qof];have hw := Qtv s p hl
  have hb : Qwb s p = (if (Qd2 s p).1 = 0 ∨ Qyz s p then some p else Qwb s (p + (Qd2 s p).2)) := by rw [Qwb, dif_pos hl]
  rw [Q0z, Q0z];refine Stp.cond (fun h0 => ?_) (fun h0 => ?_)
  ·have h0 : (Qd2 s p).1 = 0 := by simpa using h0
   refine Stp.ret ?_;rw [← hp, hb, if_pos (.inl h0)]; rfl
  have h0 : (Qd2 s p).1 ≠ 0 := by simpa using h0
  refine Stp.cond (fun h1 => ?_) (fun h1 => ?_)
  ·have h1 : (Qd2 s p).1 = 65533 := by have := of_decide_eq_true h1; omega
   refine Stp.chk (by simp; omega) ?_;rw [By];refine Stp.bind (V := (· = decide (3 ≤ (s.drop p).length ∧ (s.drop p).take 3 = [239, 191, 189]))) ⟨_, rfl, .of fun N => Qxe N _⟩ ?_
   rintro v rfl
   have hwi := Qs4 hl h1;refine Stp.cond (fun h2 => ?_) (fun h2 => ?_)
   ·have h2 : ¬ (3 ≤ (s.drop p).length ∧ (s.drop p).take 3 = [239, 191, 189]) := by
     have : (!decide (3 ≤ (s.drop p).length ∧ (s.drop p).take 3 = [239, 191, 189])) = true := h2;simpa only [Ni, decide_eq_false_iff_not] using this
    have h3 : Qyz s p := Lu fun h => h2 (hwi.2 h);refine Stp.ret ?_;rw [← hp, hb, if_pos (.inr h3)]; rfl
   have h2 : (3 ≤ (s.drop p).length ∧ (s.drop p).take 3 = [239, 191, 189]) := by
    have : (!decide (3 ≤ (s.drop p).length ∧ (s.drop p).take 3 = [239, 191, 189])) = false := h2;simpa only [Bool.not_eq_false', decide_eq_true_eq] using this
   refine Stp.go (p + (Qd2 s p).2) ⟨?_, by have := hw.1; have := hw.2.1; omega⟩;rw [← hp, hb, if_neg]
   rintro (h | h)
   ·exact h0 h
   exact hwi.1 h2 h
  have h1 : (Qd2 s p).1 ≠ 65533 := by intro e; rw [e] at h1; simp at h1
  refine Stp.go (p + (Qd2 s p).2) ⟨?_, by have := hw.1; have := hw.2.1; omega⟩;rw [← hp, hb, if_neg]
  rintro (h | h)
  ·exact h0 h
  unfold Qyz at h; rw [h] at h1; exact h1 rfl
 have hl : ¬ p < s.length := fun hlt => by
  have h' : Nat.blt p s.length = true := by rw [Bx]; exact hlt
  rw [h'] at h; cases h
 refine Stp.ret ?_;rw [← hp, Qwb, dif_neg hl]; rfl
def Qkf (s : List UInt8) : Bool := decide (s.length ≤ 65535) && (Qwb s 0).isNone
theorem Qvv (o : Option Nat) : decide (Z4v o = -1) = o.isNone := by
 cases o with
 | none => rfl
 | some p => simp [Z4v]
theorem Qv0 (s : List UInt8) : Tot (fun N => Q1z N s) (Qkf s) := by
 refine TotP.tot ?_;show TotP (fun N => cond (Q3 .leq (s.length : Int) 65535) _ _) _;rw [Q69];refine TotP.cond (fun h => ?_) (fun h => ?_)
 ·have h : s.length ≤ 65535 := by have := of_decide_eq_true h; omega
  refine TotP.bindE (Z14 s) (.ret ?_);rw [Q0z, Qvv]; simp [Qkf, h]
 have h : ¬ s.length ≤ 65535 := by have := of_decide_eq_false h; omega
 exact .ret (by simp [Qkf, h])
end
end Go.Av
namespace Go.Av
noncomputable section
open Go.Proofs
theorem Qvi (s : List UInt8) : Tot (fun N => Q4f N s) (decide (s ≠ []) && Qkf s) := by
 refine TotP.tot ?_;show TotP (fun N => cond (Q35 .neq s []) _ _) _
 have e : Q35 .neq s [] = decide (s ≠ []) := by cases s <;> rfl
 rw [e];refine TotP.cond (fun h => ?_) (fun h => ?_)
 ·exact .bindE (Qv0 s) (.ret (by rw [h]; rfl))
 exact .ret (by rw [h]; rfl)
theorem Qt8 (c : UInt8) : ∀ (l : List UInt8) (i : Nat), (0 ≤ Qmy l c i) ↔ c ∈ l
 | [], i => by simp [Qmy]
 | b :: l, i => by
  unfold Qmy
  by_cases h : b == c
  ·rw [if_pos h]; have := eq_of_beq h; subst this; simp
  rw [if_neg h, Qt8 c l (i + 1)];have : ¬ c = b := fun e => h (by simp [e]);simp [this]
theorem Qwt {c : Nat} (h : Qho c) (h1 : 128 ≤ c) : ∃ l : List UInt8, (Utf8.encode (c : Int)).data.toList = l ∧ 2 ≤ l.length ∧ l.length ≤ 4 ∧ ∀ b ∈ l, 128 ≤ b.toNat := by
 have hv := (Qlw c).2 h;unfold Utf8.encode;simp only [hv, if_true, Ms];have h2 := h.2
 have m : ∀ n, n < 256 → 128 ≤ n → 128 ≤ (UInt8.ofNat n).toNat := fun n a b => by rw [Cy]; omega
 rw [if_neg (by omega)];split
 ·refine ⟨_, rfl, by simp, by simp, fun b hb => ?_⟩;simp only [Mf, Nm, or_false] at hb
  rcases hb with rfl | rfl <;> exact m _ (by omega) (by omega)
 split
 ·refine ⟨_, rfl, by simp, by simp, fun b hb => ?_⟩;simp only [Mf, Nm, or_false] at hb
  rcases hb with rfl | rfl | rfl <;> exact m _ (by omega) (by omega)
 refine ⟨_, rfl, by simp, by simp, fun b hb => ?_⟩;simp only [Mf, Nm, or_false] at hb
 rcases hb with rfl | rfl | rfl | rfl <;> exact m _ (by omega) (by omega)
theorem Qx6 (M : Nat) : Zl (M + 3) [43, 35] (M + 3) 0 = some (-1) := by
 have e1 : Qca [43, 35] 0 = (43, 1) := by decide
 have e2 : Qca [43, 35] (0 + 1) = (35, 1) := by decide
 have b0 : Nat.blt 0 ([43, 35] : List UInt8).length = true := rfl;have b1 : Nat.blt (0 + 1) ([43, 35] : List UInt8).length = true := rfl;have b2 : Nat.blt (0 + 1 + 1) ([43, 35] : List UInt8).length = false := rfl
 have c1 : Q3 .eql ((43 : Nat) : Int) 65533 = false := by decide
 have c2 : Q3 .eql ((35 : Nat) : Int) 65533 = false := by decide
 rw [Zl, e1, b0, cond_true, c1, cond_false, Zl, e2, b1, cond_true, c2, cond_false, Zl, b2, cond_false]
theorem Z0p {c : Nat} (hc : Qho c) (N : Nat) : Yl N (c : Int) = some true := by
 unfold Yl;simp only [Q69, Xb];obtain ⟨k1, k2⟩ := hc;rw [decide_eq_true (show (0 : Int) ≤ (c : Int) by omega)]
 by_cases h5 : (c : Int) < 55296
 ·rw [decide_eq_true h5]; rfl
 have h6 : (57343 : Int) < (c : Int) := by omega
 have h7 : (c : Int) ≤ 1114111 := by omega
 rw [decide_eq_false h5, decide_eq_true h6, decide_eq_true h7]; rfl
theorem Qw4 {c : Nat} (hc : Qho c) (h : 128 ≤ c) (M : Nat) : W5 (M + 1) [43, 35] (c : Int) (M + 1) = some (-1) := by
 obtain ⟨l, hl, l1, l2, l3⟩ := Qwt hc h;rw [W5];simp only [hl, Xb, Vj]
 have ew : wrap .i64 ((l.length : Int) - 1) = ((l.length - 1 : Nat) : Int) := by rw [w64 _ (by omega)]; omega
 rw [ew]
 by_cases h2 : l.length = 2
 ·have e1 : ((l.length - 1 : Nat) : Int) = ((1 : Nat) : Int) := by rw [h2]
  rw [e1];have e2 : idx l ((1 : Nat) : Int) = some l[1] := Xz (by omega);have e3 := l3 l[1] (Lp _);generalize l[1] = y at e2 e3
  have e4 : decide (((35 : UInt8).toNat : Int) ≠ (y.toNat : Int)) = true := by
   have : (35 : UInt8).toNat = 35 := rfl;simp only [ne_eq, decide_eq_true_eq]; omega
  have e5 : idx ([43, 35] : List UInt8) ((1 : Nat) : Int) = some 35 := rfl
  have e6 : wrap .i64 (((1 : Nat) : Int) + 1) = 2 := by decide
  have e7 : decide (((1 : Nat) : Int) < ((([43, 35] : List UInt8).length : Nat) : Int)) = true := by decide
  have e8 : decide ((0 : Int) ≤ 2) = true := by decide
  rw [e7, cond_true, e5, Lb, e2, Lb, e4, cond_true, e6, e8, cond_true]
  have e9 : (Nat.ble (Int.toNat 2) ([43, 35] : List UInt8).length && Nat.ble ([43, 35] : List UInt8).length ([43, 35] : List UInt8).length) = true := by decide
  rw [e9, cond_true, Lb];rfl
 have e1 : decide (((l.length - 1 : Nat) : Int) < ((([43, 35] : List UInt8).length : Nat) : Int)) = false := by
  simp; omega
 rw [e1]; rfl
theorem Qhz {c : Nat} (hc : Qho c) : TotP (fun N => G8 N [43, 35] (c : Int)) (fun v => decide (v ≥ 0) = decide (c = 43 ∨ c = 35)) := by
 show TotP (fun N => cond (Q3 .leq 0 (c : Int)) _ _) _
 have e0 : Q3 .leq 0 (c : Int) = true := by rw [Q69]; simp
 rw [e0];refine TotP.cond (fun _ => ?_) (fun h => by cases h);unfold Ve;rw [Xb, Q0z];refine TotP.cond (fun h => ?_) (fun h => ?_)
 ·have h : c < 128 := by have := of_decide_eq_true h; omega
  have ew : wrap .u8 (c : Int) = c := by
   rw [IntWalk.u8_in]; omega
  refine TotP.bindE (v := Qmy [43, 35] (UInt8.ofNat c) 0) (.of fun N => ?_) (.ret ?_)
  ·show ((X9 N [43, 35] _).bind fun v => some v) = _;rw [ew]; rfl
  have := Qt8 (UInt8.ofNat c) [43, 35] 0;rw [decide_eq_decide];show (0 ≤ _) ↔ _;rw [this]
  have e1 : ∀ n, n < 256 → (UInt8.ofNat c = UInt8.ofNat n ↔ c = n) := fun n hn => by
   rw [← UInt8.toNat_inj, Cy, Cy]; omega
  have a := e1 43 (by omega);have b := e1 35 (by omega);simp only [Mf, Nm, or_false];exact or_congr a b
 have h : 128 ≤ c := by have := of_decide_eq_false h; omega
 have hn : decide (c = 43 ∨ c = 35) = false := by simp; omega
 refine TotP.cond (fun h1 => ?_) (fun h1 => ?_)
 ·-- bytes that are none
  refine ⟨-1, by rw [hn]; rfl, 3, fun N hN => ?_⟩;obtain ⟨M, rfl⟩ : ∃ M, N = M + 3 := ⟨N - 3, by omega⟩;exact Qx6 M
 refine TotP.bindE (.of (Z0p hc)) ?_;refine TotP.cond (fun h => by cases h) (fun _ => ?_);refine ⟨-1, by rw [hn]; rfl, 1, fun N hN => ?_⟩;obtain ⟨M, rfl⟩ : ∃ M, N = M + 1 := ⟨N - 1, by omega⟩;exact Qw4 hc h M
end
end Go.Av
namespace Go.Av
noncomputable section
open Go.Proofs
def Z0y (s : List UInt8) : Bool := s.any fun b => b.toNat == 43 || b.toNat == 35
theorem Qy2 {s : List UInt8} {j : Nat} (hj : j < s.length) (h : at8 s j = 43 ∨ at8 s j = 35) : Z0y s = true := by
 unfold Z0y;rw [Df];refine ⟨s[j], Lp _, ?_⟩;rw [Qdc hj] at h
 rcases h with h | h <;> simp [h]
theorem Qyw {s : List UInt8} (h : ∀ j, j < s.length → at8 s j ≠ 43 ∧ at8 s j ≠ 35) : Z0y s = false := by
 unfold Z0y;rw [List.any_eq_false];intro b hb;obtain ⟨j, hj, rfl⟩ := Ce hb;have := h j hj;rw [Qdc hj] at this;simp [this.1, this.2]
def asciiS : List Bool := (List.range 256).map fun n => n == 43 || n == 35
theorem Qty (n : Nat) (h : n < 256) : idx asciiS (n : Int) = some (n == 43 || n == 35) := by
 have hl : n < asciiS.length := by simp [asciiS]; exact h
 rw [Xz hl]; simp [asciiS]
set_option maxRecDepth 20000 in
theorem Qjx (s : List UInt8) (hs : s.length ≤ maxLen) : TotP (fun N => J8 N s) (fun v => decide (v ≥ 0) = Z0y s) := by
 have hm := Qa8;show TotP (fun N => cond (Q35 .eql [43, 35] []) _ _) _;refine TotP.cond (fun h => by cases h) (fun _ => ?_);refine TotP.bindE (v := decide ((s.length : Int) > 8)) (.of fun N => rfl) ?_;refine TotP.cond (fun _ => ?_) (fun _ => ?_)
 ·refine Qgn (L := fun N n i => X8 N s n i) s.length (fun i => ∀ j, j < i → at8 s j ≠ 43 ∧ at8 s j ≠ 35) (fun i hi hj => ?_) (fun hj => ?_) (fun j hj => by omega)
  ·show Stp _ _ _ (fun N n => cond (Q3 .lss (i : Int) (s.length : Int)) _ _);refine Stp.cond (fun _ => ?_) (fun h => by rw [Xb] at h; have := of_decide_eq_false h; omega);refine Stp.idx (Xz hi) ?_;have hb := UInt8.toNat_lt s[i];refine Stp.chk (by simp; omega) ?_;refine Stp.idx (Qty _ (by omega)) ?_;refine Stp.cond (fun h => ?_) (fun h => ?_)
   ·refine Stp.ret ?_;rw [Qy2 hi (by rw [Qdc hi]; simpa using h)];simp
   rw [w64 _ (by omega)];refine Stp.go _ ⟨by omega, fun j hj' => ?_⟩
   by_cases e : j = i
   ·subst e; rw [Qdc hi]; simpa using h
   exact hj j (by omega)
  show Stp _ _ _ (fun N n => cond (Q3 .lss (s.length : Int) (s.length : Int)) _ _);refine Stp.cond (fun h => by rw [Xb] at h; have := of_decide_eq_true h; omega) (fun _ => ?_);refine Stp.ret ?_;rw [Qyw hj]; rfl
 refine Qtx (L := fun N n (p : Nat) => X7 N s n p) (fun p => ∀ j, j < p → at8 s j ≠ 43 ∧ at8 s j ≠ 35) (fun p => s.length - p) (fun p hp => ?_) 0 (fun j hj => by omega);show Stp _ _ _ (fun N n => cond (Nat.blt p s.length) _ _);refine Stp.cond (fun h => ?_) (fun h => ?_)
 ·have hl : p < s.length := by simpa [Nat.blt_eq] using h
  rw [Qof];obtain ⟨w1, w2, w3, w4, w5, w6⟩ := Qtv s p hl;refine Stp.bind (Qhz w6) ?_;intro v hv;rw [Qiz, hv];refine Stp.cond (fun h => ?_) (fun h => ?_)
  ·have h := of_decide_eq_true h;have h128 : at8 s p < 128 := w3.1 (by omega);refine Stp.ret ?_;rw [Qy2 hl (by rw [← (w4 h128).1]; exact h)];simp
  have h := of_decide_eq_false h;refine Stp.go _ ⟨fun j hj => ?_, by omega⟩
  by_cases e : j < p
  ·exact hp j e
  by_cases e2 : j = p
  ·subst e2
   by_cases h128 : at8 s j < 128
   ·rw [(w4 h128).1] at h; omega
   omega
  have := w5 (j - p) (by omega) (by omega);rw [show p + (j - p) = j by omega] at this;omega
 refine Stp.ret ?_;rw [Qyw (fun j hj => hp j ?_)]
 ·rfl
 have : ¬ p < s.length := fun hlt => by
  have h' : Nat.blt p s.length = true := by rw [Bx]; exact hlt
  rw [h'] at h; cases h
 omega
theorem Qk7 (s : List UInt8) (hs : s.length ≤ maxLen) : Tot (fun N => Vx N s) (Z0y s) := by
 refine TotP.tot ?_;refine TotP.bind (Qjx s hs) (fun v hv => .ret ?_);rw [Qiz]; exact hv
def Z1t (s : List UInt8) : Bool := decide (s ≠ []) && Qkf s && !Z0y s
theorem Qws (s : List UInt8) (hs : s.length ≤ maxLen) : Tot (fun N => Q4e N s) (Z1t s) := by
 refine TotP.tot ?_;refine TotP.bindE (Qvi s) ?_;refine TotP.cond (fun h => ?_) (fun h => ?_)
 ·refine TotP.bindE (Qk7 s hs) (.ret ?_);unfold Z1t; rw [h]; rfl
 exact .ret (by unfold Z1t; rw [h]; rfl)
end
end Go.Av
namespace Go.Av
noncomputable section
def Any {R : Type} (f : Nat → Option R) : Prop := TotP f fun _ => True
theorem Qhq (N : Nat) (x a b : Int) : Jj N x a b = some (decide (a ≤ x) && decide (x ≤ b)) := by
 unfold Jj;rw [Qiz, Q69]
 by_cases h : a ≤ x
 ·rw [decide_eq_true (p := x ≥ a) h]; rfl
 rw [decide_eq_false (p := x ≥ a) h]; rfl
section
variable (e : Qj) (lm : Z3) (h1 : e.Hops.length ≤ 8) (h2 : ∀ h ∈ e.Hops, h.Node.length ≤ 300)
include h1 h2
end
end
end Go.Av
namespace Go.Av
noncomputable section
section
variable {R S T : Type} {L : Nat → Nat → S → Option R} {P : S → Prop} {Q : R → Prop}
end
end
end Go.Av
namespace Go.Av
noncomputable section
theorem Qf4 (l : List Zz) (hb : l.length ≤ maxLen) : TotP (fun N => Qz N l) (fun v => v = true → l.length ≤ 30 ∧ ∀ p ∈ l, p.Text.length ≤ 300 ∧ p.Value.length ≤ 300) := by
 have hm := Qa8
 ·refine Qgn (L := fun N n s => Zk N l n s) l.length (fun i => ∀ j (h : j < l.length), j < i → (l[j]).Text.length ≤ 300 ∧ (l[j]).Value.length ≤ 300) (fun i hi hj => ?_) (fun hj => ?_) (fun j _ hj => by omega)
  ·show Stp _ _ _ (fun N n => cond (Q3 .lss (i : Int) ((Qd Zz.cells l).length : Int)) _ _);rw [Q5, Xb];refine Stp.cond (fun _ => ?_) (fun h => by have := of_decide_eq_false h; omega);refine Stp.idx (Xz hi) ?_;rw [Q2c];refine Stp.cond (fun _ => Stp.ret (fun h => nomatch h)) (fun h1 => ?_);refine Stp.idx (Xz hi) ?_;rw [Q2c];refine Stp.cond (fun _ => Stp.ret (fun h => nomatch h)) (fun h2 => ?_);have h1 := of_decide_eq_false h1; have h2 := of_decide_eq_false h2;rw [w64 _ (by omega)];refine Stp.go (L := fun N n s => Zk N l n s) _ ⟨by omega, fun j hj' hji => ?_⟩
   by_cases e : j = i
   ·subst e; constructor <;> omega
   exact hj j hj' (by omega)
  show Stp _ _ _ (fun N n => cond (Q3 .lss (l.length : Int) ((Qd Zz.cells l).length : Int)) _ _);rw [Q5, Xb];refine Stp.cond (fun h => by have := of_decide_eq_true h; omega) (fun _ => Stp.ret (fun h => ⟨?_, fun p hp => ?_⟩))
  ·rw [Q69] at h; have := of_decide_eq_true h; omega
  obtain ⟨j, hj', rfl⟩ := Ce hp;exact hj j hj' hj'
theorem Z4x (x : Int) : wrap .i64 x ≤ 9223372036854775807 := by rw [IntKind.wrap_i64]; omega
theorem Qu4 : ∀ (k : Nat) (v : Q0) (deep most : Int), deep < (k : Int) → -1 ≤ deep → deep ≤ 1000 → most ≤ 9223372036854775807 → Any (fun N => Za N v deep most) := by
 intro k
 induction k with
 | zero =>
  intro v deep most h _ _ _;refine ⟨wrap .i64 (most + 1), trivial, 1, fun N hN => ?_⟩;obtain ⟨M, rfl⟩ : ∃ M, N = M + 1 := ⟨N - 1, by omega⟩;show cond (Q3 .lss deep 0) _ _ = _;rw [Xb, decide_eq_true (by omega)]; rfl
 | succ k ih =>
  intro v deep most h hd hdm hm
  have body : Any (fun N => Uz (Za N) N v deep most) := by
   refine TotP.cond (fun _ => .ret trivial) (fun h1 => ?_);refine TotP.cond (fun _ => .ret trivial) (fun h2 => ?_);refine TotP.cond (fun _ => .ret trivial) (fun _ => ?_);rw [Xb] at h1; rw [Q0.rows_eq, Q5, Q2c] at h2;have h1 := of_decide_eq_false h1; have h2 := of_decide_eq_false h2;have := Qtx (L := fun N n (p : Int × Int) => Zn (Za N) N v deep most n p.1 p.2) (Q := fun _ => True) (fun p => ∃ i : Nat, p.2 = (i : Int) ∧ i ≤ v.Items.length) (fun p => v.Items.length - p.2.toNat) ?_ (1, 0) ⟨0, rfl, by omega⟩
   ·exact this
   rintro ⟨q, s⟩ ⟨i, hs, hi⟩
   simp only at hs
   subst hs;show Stp _ _ _ (fun N n => cond (Q3 .lss (i : Int) ((Q0.rows v.Items).length : Int)) _ _);rw [Q0.rows_eq, Q5, Xb];refine Stp.cond (fun h => ?_) (fun _ => Stp.ret trivial);have h := of_decide_eq_true h
   have hi : i < v.Items.length := by omega
   refine Stp.cond (fun _ => ?_) (fun _ => Stp.ret trivial);refine Stp.idx (Xz hi) ?_;rw [w64 (deep - 1) (by omega)];refine Stp.bind (f := fun N => Za N (v.Items[i]) (deep - 1) (wrap .i64 (most - q))) (V := fun _ => True) (ih v.Items[i] (deep - 1) (wrap .i64 (most - q)) (by omega) (by omega) (by omega) (Z4x (most - q))) (fun w _ => ?_);rw [w64 ((i : Int) + 1) (by omega)];refine Stp.go (L := fun N n (p : Int × Int) => Zn (Za N) N v deep most n p.1 p.2) (_, _) ⟨⟨i + 1, by simp only; omega, by omega⟩, by simp only; omega⟩
  obtain ⟨r, _, N0, hN⟩ := body;refine ⟨r, trivial, N0 + 1, fun N h => ?_⟩;obtain ⟨M, rfl⟩ : ∃ M, N = M + 1 := ⟨N - 1, by omega⟩;exact hN M (by omega)
theorem Qri (f : Q7) : Any (fun N => Z8 N f) := by
 refine TotP.cond (fun _ => .ret trivial) (fun h0 => ?_);rw [Q0.rows_eq, Q5, Q2c] at h0;have h0 := of_decide_eq_false h0;refine TotP.cond (fun _ => .ret trivial) (fun _ => ?_);refine Qgn (L := fun N n s => Qu N f n s) f.Values.length (fun _ => True) (fun i hi _ => ?_) (fun _ => ?_) trivial
 ·show Stp _ _ _ (fun N n => cond (Q3 .lss (i : Int) ((Q0.rows f.Values).length : Int)) _ _);rw [Q0.rows_eq, Q5];refine Stp.cond (fun _ => ?_) (fun _ => Stp.ret trivial);refine Stp.idx (Xz hi) ?_;refine Stp.bind (V := fun _ => True) (TotP.bind (Qu4 7 _ 6 40 (by decide) (by decide) (by decide) (by decide)) (fun _ _ => .ret trivial)) (fun _ _ => ?_);refine Stp.cond (fun _ => Stp.ret trivial) (fun _ => ?_);rw [w64 _ (by omega)];exact Stp.go (L := fun N n s => Qu N f n s) _ ⟨by omega, trivial⟩
 show Stp _ _ _ (fun N n => cond (Q3 .lss (f.Values.length : Int) ((Q0.rows f.Values).length : Int)) _ _);rw [Q0.rows_eq, Q5];refine Stp.cond (fun h => by rw [Xb] at h; have := of_decide_eq_true h; omega) (fun _ => Stp.ret trivial)
structure OkE (e : Qj) : Prop where
 topic : e.Topic.length ≤ maxLen
 props : e.Props.length ≤ maxLen
 filters : e.Packet.Filters.length ≤ maxLen
 pprops : e.Packet.Props.length ≤ maxLen
 wprops : e.Packet.Will.Props.length ≤ maxLen
structure LightE (e : Qj) : Prop where
 topic : e.Topic.length ≤ 2000
 payload : e.Payload.length ≤ 2000
 props : e.Props.length ≤ 30 ∧ ∀ p ∈ e.Props, p.Text.length ≤ 300 ∧ p.Value.length ≤ 300
 hops : e.Hops.length ≤ 8 ∧ ∀ h ∈ e.Hops, h.Node.length ≤ 300
def Lv (o : Option Int) (P : Prop) : Prop := ∃ v, o = some v ∧ (v = 0 → P)
theorem Lv.of {v : Int} {P : Prop} (h : P) : Lv (some v) P := ⟨v, rfl, fun _ => h⟩
theorem Lv.no {v : Int} {P : Prop} (h : v ≠ 0) : Lv (some v) P := ⟨v, rfl, fun e => absurd e h⟩
theorem Lv.cond {b : Bool} {x y : Option Int} {P : Prop} (h1 : Lv x P) (h2 : Lv y P) : Lv (cond b x y) P := by cases b <;> assumption
structure PubE (e : Qj) : Prop where
 proto : e.Proto = 1 ∨ e.Proto = 2 ∨ e.Proto = 3 ∨ e.Proto = 4
 kind : e.Kind = 1
 qos : e.QoS = -1 ∨ e.QoS = 0 ∨ e.QoS = 1 ∨ e.QoS = 2
theorem Qvj (N : Nat) (p : Int) : Q1x N p = some (decide (p = 1 ∨ p = 2 ∨ p = 3 ∨ p = 4)) := by
 by_cases h : p = 1 ∨ p = 2 ∨ p = 3 ∨ p = 4
 ·rw [decide_eq_true h]; rcases h with rfl | rfl | rfl | rfl <;> rfl
 have h0 : Qcn Gm p = none := by
  have h1 : (p == 1) = false := by simp; omega
  have h2 : (p == 2) = false := by simp; omega
  have h3 : (p == 3) = false := by simp; omega
  have h4 : (p == 4) = false := by simp; omega
  unfold Gm;simp only [Qcn, h1, h2, h3, h4, cond_false]
 unfold Q1x;rw [h0, decide_eq_false h]; rfl
end
end Go.Av
namespace Go.Av
noncomputable section
open Go.Proofs
set_option maxRecDepth 100000
theorem Qqu (N : Nat) (code : Int) (v : Q0) (b : List UInt8) (hn : okU v.N') (h : v.Text.length < N) (hb : v.Text.length < 4611686018427387000) (hN : 50 < N) (hl : b.length < 4611686018427387000) (hl2 : v.Items.length < 4611686018427387000) : Xw N code v b = some (Q6y code v b) := by
 simp only [Xw, Qd5 N code hN, Lb, Qhc N code v hn h hb hN, Q9, J6, Qh, Q6y]
 by_cases hi : (ofS code).Items = false
 ·rw [if_pos (by simp [hi]), if_pos hi]
 rw [if_neg (by simpa using hi), if_neg hi]
 by_cases h0 : (ofS code).Width = 0
 ·rw [if_pos h0, if_pos h0]
  congr 1
  rw [Mq, J6]; simp
 rw [if_neg h0, if_neg h0]
 by_cases h4 : (ofS code).Width = 4
 ·rw [if_pos h4]; simp [h4]
 rw [if_neg h4, Z1 _ (by omega)];split
 ·rename_i h5;rw [Wm] at h5
  congr 1
  rw [Mq, Wm]; simp [h4]; omega
 rename_i h5;rw [Wm] at h5
 congr 1
 symm
 rw [decide_eq_false_iff_not]; omega
theorem Qef {N : Nat} {k0 : Int → Option Int} {items : List Q0} {ins : List (List UInt8)} {v1 : List Int} {i : Nat} {code : Int} (hlen : items.length = ins.length) (hc : v1[i]? = some code) (hb : items.length < 1000000000)
  (hR : ∀ p ∈ items.zip ins, Xw N code p.1 p.2 = some (Q6y code p.1 p.2)) : ∀ (n k : Nat) (all : Bool), k ≤ items.length → items.length - k < n →
  Ya N k0 items ins v1 (i : Int) n all (k : Int) = if (all && Qmq code ((items.zip ins).drop k)) = true then some code else k0 (IntKind.i64.wrap ((i : Int) + 1))
 | 0, k, all, _, h => by omega
 | n + 1, k, all, hk, hn => by
  simp only [Ya, Q9, Wm, Qh, Zs, hc, Lb]
  by_cases h : k < items.length
  ·rw [if_pos (by omega), La h, La (show k < ins.length by omega)]
   have hz : k < (items.zip ins).length := by simp; omega
   have hmem : (items[k], ins[k]) ∈ items.zip ins := by
    have := Lp hz
    rwa [List.getElem_zip] at this
   have hd : (items.zip ins).drop k = (items[k], ins[k]) :: (items.zip ins).drop (k + 1) := by
    rw [Ln hz, List.getElem_zip]
   simp only [Lb, hR _ hmem]
   cases all with
   | false => simp
   | true =>
    rw [if_pos rfl, Z1 _ (by omega)];have ih := Qef (N := N) (k0 := k0) hlen hc hb hR n (k + 1) (Q6y code items[k] ins[k]) (by omega) (by omega);rw [hd];simp only [Qmq, Bf, Mo] at ih ⊢
    exact_mod_cast ih
  rw [if_neg (by omega), Lm (by simp; omega)];cases all <;> simp [Qmq]
theorem Qdn {N : Nat} {items : List Q0} {ins : List (List UInt8)} {v1 : List Int} (hlen : items.length = ins.length) (hb : items.length < 1000000000) (hb1 : v1.length < 1000) (hN : items.length < N)
  (hR : ∀ c ∈ v1, ∀ p ∈ items.zip ins, Xw N c p.1 p.2 = some (Q6y c p.1 p.2)) : ∀ (n i : Nat), i ≤ v1.length → v1.length - i < n →
  Z9 N items ins v1 n (i : Int) = some (((v1.drop i).find? (fun c => Qmq c (items.zip ins))).getD 0)
 | 0, i, _, h => by omega
 | n + 1, i, hi, hn => by
  simp only [Z9, Q9, Wm, Q5]
  by_cases h : i < v1.length
  ·rw [if_pos (by omega)];have := Qef (k0 := Z9 N items ins v1 n) hlen (La h) hb (hR _ (Lp h)) N 0 true (by omega) (by omega);rw [show (0 : Int) = ((0 : Nat) : Int) from rfl, this, Mj, Mo, Ln h, Dn]
   cases Qmq v1[i] (items.zip ins) with
   | true => simp
   | false =>
    rw [if_neg (by simp), Z1 _ (by omega)]
    exact_mod_cast Qdn hlen hb hb1 hN hR n (i + 1) (by omega) (by omega)
  rw [if_neg (by omega), Lm (by omega)]; simp
theorem Qer (N : Nat) (k : Int) (items : List Q0) (ins : List (List UInt8)) (hlen : items.length = ins.length) (hb : items.length < 1000000000) (hN : items.length < N) (hN2 : 50 < N)
  (hp : ∀ p ∈ items.zip ins, okU p.1.N' ∧ p.1.Text.length < N ∧ p.1.Text.length < 4611686018427387000 ∧ p.2.length < 4611686018427387000 ∧ p.1.Items.length < 4611686018427387000) :
  Wo N k items ins = some (Q34 k (items.zip ins)) := by
 have hc := Qgv k;simp only [Wo, Qmg N k hN2, Lb]
 have := Qdn (N := N) (v1 := Uy k) hlen hb (by omega) hN (fun c _ p hp' => by
  obtain ⟨h1, h2, h3, h4, h5⟩ := hp p hp'
  exact Qqu N c p.1 p.2 h1 h2 h3 hN2 h4 h5) N 0 (by omega) (by omega)
 rw [Mj] at this;exact this
theorem Qg5 (N : Nat) (code : Int) (v : Q0) (b : List UInt8) (hc : ofB code = true) (hn : okU v.N') (h : v.Text.length < N) (hb : v.Text.length < 4611686018427387000) (hN : 50 < N) (hl : b.length < 1000000000000000000) (hl2 : v.Items.length < 1000000000000000000) : W1 N code v b = some (Jn code v b) := by
 simp only [W1, Qd5 N code hN, Lb, Qrs N code v hn h hb hN, Q9, Qh, Jn]
 by_cases hi : (ofS code).Items = false
 ·rw [if_pos (by simp [hi]), if_pos hi]
 rw [if_neg (by simpa using hi), if_neg hi]
 have hi : (ofS code).Items = true := by simpa using hi
 by_cases hs : (ofS code).Sized = false
 ·rw [if_pos (by simp [hs]), if_pos hs]
 rw [if_neg (by simpa using hs), if_neg hs]
 have hs : (ofS code).Sized = true := by simpa using hs
 obtain ⟨w1, _⟩ := (Q6d hc hi).1 hs
 obtain ⟨w, hw, hw2⟩ : ∃ w : Nat, (ofS code).Width = (w : Int) ∧ w ≤ 4 := by
  rcases w1 with h | h
  ·exact ⟨1, h, by omega⟩
  exact ⟨4, h, by omega⟩
 rw [hw, Z1 _ (by omega), show ((b.length : Int) + (w : Int)) = ((b.length + w : Nat) : Int) by push_cast; rfl, Q49 _ (by omega), Q49 _ (by omega),
  Qh4 N _ w (by omega) (by omega) (by omega), Qh4 N _ w (by omega) (by omega) (by omega)]
 simp only [Lb, Ms, Jo, Mu, Lt];rw [if_pos (by omega), if_pos (by omega), Bp]
theorem Qe5 {R : Q0 → Option (List UInt8)} {N : Nat} {l : List Q0} (hb : l.length < 1000000000) (hR : ∀ y ∈ l, R y = some y.inn) : ∀ (n i : Nat), i ≤ l.length → l.length - i < n →
  Ye R N l n (i : Int) ((l.take i).map Q0.inn) = some (l.map Q0.inn)
 | 0, i, _, h => by omega
 | n + 1, i, hi, hn => by
  simp only [Ye, Q9, Wm, Qh, Zs]
  by_cases h : i < l.length
  ·rw [if_pos (by omega), La h];simp only [Lb, hR _ (Lp h)];rw [if_pos (by rw [Mu, Mh, Mc]; omega), Z1 _ (by omega)]
   have e : (l.take i).map Q0.inn ++ [l[i].inn] = (l.take (i + 1)).map Q0.inn := by rw [Ma h, Nr]; rfl
   rw [e]
   exact_mod_cast Qe5 (N := N) hb hR n (i + 1) (by omega) (by omega)
  rw [if_neg (by omega), Lw (by omega)]
theorem Q9p {α : Type} (f : Q0 → List α) (l : List Q0) (i : Nat) (h : i < l.length) : ((l.take i).map f).flatten ++ f l[i] = ((l.take (i + 1)).map f).flatten := by
 rw [Ma h, Nr, Cv]; simp
theorem Qik (f : Q0 → List UInt8) (l : List Q0) (i : Nat) : ((l.take i).map f).flatten.length ≤ (l.map f).flatten.length := by
 conv => rhs; rw [← Nj i l, Nr, Cv, Lt]
 omega
theorem Qck {N : Nat} {v : Q0} {ins : List (List UInt8)} {c : Int} (hins : ins = v.Items.map Q0.inn) (hb : v.Items.length < 1000000000) (hl : (v.Items.map fun x => Jn c x x.inn).flatten.length < 1000000000000000000)
  (hR : ∀ y ∈ v.Items, W1 N c y y.inn = some (Jn c y y.inn)) : ∀ (n i : Nat), i ≤ v.Items.length → v.Items.length - i < n →
  Y5 N v ins c n (Q8g c :: ((v.Items.take i).map fun x => Jn c x x.inn).flatten) (i : Int) = some (Q8g c :: (v.Items.map fun x => Jn c x x.inn).flatten)
 | 0, i, _, h => by omega
 | n + 1, i, hi, hn => by
  simp only [Y5, Q9, Wm, Qh, Zs]
  by_cases h : i < v.Items.length
  ·have hx : ins[i]? = some v.Items[i].inn := by rw [hins, Ll, La h]; rfl
   have hft := Q9p (fun x => Jn c x x.inn) v.Items i h;have h1 := Qik (fun x => Jn c x x.inn) v.Items (i + 1);rw [← hft, Lt] at h1;rw [if_pos (by omega), La h, hx];simp only [Lb, hR _ (Lp h)];rw [if_pos (by simp only [Mu, Lz]; omega), Z1 _ (by omega), Bi, hft]
   exact_mod_cast Qck hins hb hl hR n (i + 1) (by omega) (by omega)
  rw [if_neg (by omega), Lw (by omega)]
theorem Qc0 {R : Q0 → Option (List UInt8)} {N : Nat} {v : Q0} (hk : v.Kind ≠ 25) (hb : v.Items.length < 1000000000) (hl : (v.Items.map Q0.byt).flatten.length < 1000000000000000000)
  (hR : ∀ y ∈ v.Items, R y = some y.byt) : ∀ (n i : Nat), i ≤ v.Items.length → v.Items.length - i < n →
  Zi R N v n ((v.Items.take i).map Q0.byt).flatten (i : Int) = some (v.Items.map Q0.byt).flatten
 | 0, i, _, h => by omega
 | n + 1, i, hi, hn => by
  simp only [Zi, Q9, Wm, Q01, Qh, Zs]
  by_cases h : i < v.Items.length
  ·have hft := Q9p Q0.byt v.Items i h;have h1 := Qik Q0.byt v.Items (i + 1);rw [← hft, Lt] at h1;rw [if_pos (by omega), if_pos hk, La h];simp only [Lb, hR _ (Lp h)];rw [if_pos (by simp only [Mu]; omega), Z1 _ (by omega), hft]
   exact_mod_cast Qc0 (N := N) hk hb hl hR n (i + 1) (by omega) (by omega)
  rw [if_neg (by omega), Lw (by omega)]
theorem Q81 {c : Int} (h : 0 ≤ c ∧ c < 256) : UInt8.ofNat (IntKind.u8.wrap c).toNat = Q8g c := by
 unfold Q8g;rw [Z05, Db h.1 h.2]
theorem Qbl {v : Q0} (hw : v.wgt < 4000000000) : v.inn.length < 1000000000000000000 ∧ (v.Items.map Q0.byt).flatten.length < 1000000000000000000 ∧ (∀ c, (v.Items.map fun x => Jn c x x.inn).flatten.length < 1000000000000000000) ∧ ∀ x ∈ v.Items, x.wgt < 4000000000 := by
 have hwe := v.wgt_eq;have h1 := (Q4r v).1
 have s1 : ∀ (f : Q0 → List UInt8) (l : List Q0), (∀ x ∈ l, (f x).length ≤ x.wgt) → (l.map f).flatten.length ≤ Q0.wgts l := by
  intro f l
  induction l with
  | nil => intro _; simp
  | cons x l ihl =>
   intro h;have h1 := h x (.head _);have h2 := ihl (fun y hy => h y (.tail _ hy));simp only [Mn, Mz, Lt, Q0.wgts]; omega
 refine ⟨by omega, ?_, fun c => ?_, fun x hx => by have := Z1m hx; omega⟩
 ·have := s1 Q0.byt v.Items (fun x _ => (Q4r x).2.1); omega
 have := s1 (fun x => Jn c x x.inn) v.Items (fun x _ => by have := (Q4r x).2.2 c; omega); omega
theorem Z2p (v : Q0) : ∀ m : Int, Fine v → Vv v m = 0 → v.wgt < 4000000000 → v.sz < 1000000000 →
  (∀ N, 3 * v.sz + 300099 ≤ N → W8 N v = some v.inn) ∧ ∀ N, 3 * v.sz + 300100 ≤ N → Xh N v = some v.byt := by
 induction v using Q0.ind with
 | h v ih =>
  intro m hf hc hw hz;have hs := v.sz_eq;have hsl := Q0.szs_len v.Items;obtain ⟨l1, l2, l3, l4⟩ := Qbl hw
  have hit : ∀ x ∈ v.Items, ∃ m', Vv x m' = 0 := fun x hx => by
   rcases Q0m hc with ⟨k1, k2, k3⟩ | ⟨_, _, _, _, _, _, k7⟩
   ·rw [(Q23 k3).2.2.2.1] at hx; cases hx
   exact ⟨_, (k7 x hx).1⟩
  have hsx : ∀ x ∈ v.Items, x.sz + 1 ≤ v.sz := fun x hx => by have := Q0.szs_mem _ x hx; omega
  have hI : ∀ x ∈ v.Items, (∀ N, 3 * x.sz + 300099 ≤ N → W8 N x = some x.inn) ∧ ∀ N, 3 * x.sz + 300100 ≤ N → Xh N x = some x.byt := fun x hx => by
   obtain ⟨m', hm⟩ := hit x hx;exact ih x hx m' (hf.items x hx) hm (l4 x hx) (by have := hsx x hx; omega)
  have htx := hf.text
  have hW : ∀ N, 3 * v.sz + 300099 ≤ N → W8 N v = some v.inn := by
   intro N hN;obtain ⟨N, rfl⟩ : ∃ N', N = N' + 2 := ⟨N - 2, by omega⟩;show Vg (Xh (N + 1)) (W8 (N + 1)) (Q00 (N + 1)) (N + 1) v = _;rw [Qls];simp only [Vg, Q9, J6]
   by_cases h4 : v.Kind = 24
   ·rw [if_pos h4, if_pos h4]
    rcases Q0m hc with ⟨k1, k2, k3⟩ | ⟨k1, k2, k3, k4, k5, k6, k7⟩
    ·omega
    obtain ⟨s1, s2, s3, s4, s5⟩ := Q5i k4;have hn := s2 h4
    have hin : Q00 (N + 1) v.Items = some (v.Items.map Q0.inn) :=
     Qe5 (R := W8 N) (N := N) (by omega) (fun x hx => (hI x hx).1 N (by have := hsx x hx; omega)) N 0 (by omega) (by omega)
    have hzip : v.Items.zip (v.Items.map Q0.inn) = v.prs := by
     unfold Q0.prs
     have : ∀ l : List Q0, l.zip (l.map Q0.inn) = l.map fun x => (x, x.inn) := by
      intro l
      induction l with
      | nil => rfl
      | cons x l ih => simp [ih]
     exact this _
    have hfi := Qer (N + 1) v.N' v.Items (v.Items.map Q0.inn) (by simp) (by omega) (by omega) (by omega) (fun p hp => by
     rw [hzip] at hp;unfold Q0.prs at hp;obtain ⟨x, hx, rfl⟩ := Mw.1 hp;have f1 := hf.items x hx;have f2 := f1.text;have f3 := (Q4r x).1;have f4 := l4 x hx;have f5 := hsx x hx;have f6 := x.sz_eq;have f7 := Q0.szs_len x.Items;have f8 := x.wgt_eq
     exact ⟨f1.num, by simp only []; omega, by simp only []; omega, by simp only []; omega, by simp only []; omega⟩)
    rw [hzip] at hfi;obtain ⟨e1, _⟩ := Qyu hf hc h4;obtain ⟨d1, _, _⟩ := Q7m _ _ e1;rw [hin];simp only [Lb];rw [Z1 _ (by omega), hfi];simp only [Lb];have hel : Q34 v.N' v.prs = v.elm := rfl;rw [hel, Q81 (Qf3 d1)]
    have := Qck (N := N + 1) (v := v) (c := v.elm) rfl (by omega) (l3 v.elm) (fun x hx => by
     have f1 := hf.items x hx;have f2 := f1.text;have f3 := (Q4r x).1;have f4 := l4 x hx;have f5 := hsx x hx;have f6 := x.sz_eq;have f7 := Q0.szs_len x.Items;have f8 := x.wgt_eq
     exact Qg5 (N + 1) v.elm x x.inn d1 f1.num (by omega) (by omega) (by omega) (by omega) (by omega)) (N + 1) 0 (by omega) (by omega)
    exact this
   rw [if_neg h4, if_neg h4]
   by_cases h5 : v.Kind = 25
   ·rw [if_pos h5];simp only [Zi, Q9, Wm, Q01, Qh];rw [if_neg (show ¬ (v.Kind ≠ 25) by omega)];simp
   rw [if_neg h5];have := Qc0 (R := Xh (N + 1)) (N := N + 1) h5 (by omega) l2 (fun x hx => (hI x hx).2 (N + 1) (by have := hsx x hx; omega)) (N + 1) 0 (by omega) (by omega);exact this
  refine ⟨hW, fun N hN => ?_⟩;obtain ⟨N, rfl⟩ : ∃ N', N = N' + 1 := ⟨N - 1, by omega⟩;show Vp (Xh N) (W8 N) (Q00 N) N v = _;rw [Qtc];simp only [Vp, Q9, J6]
  by_cases h5 : v.Kind = 25
  ·rw [if_pos h5, if_pos h5]
   rcases Q0m hc with ⟨k1, k2, k3⟩ | ⟨k1, k2, k3, k4, k5, k6, k7⟩
   ·omega
   have hl := (Q5i k4).2.2.2.1 h5
   match hI' : v.Items, hl with
   | [x, y], _ =>
    have hx : x ∈ v.Items := by rw [hI']; simp
    have hy : y ∈ v.Items := by rw [hI']; simp
    have e0 : idx [x, y] 0 = some x := rfl;have e1 : idx [x, y] 1 = some y := rfl;rw [e0, e1];have b1 := (Q4r x).2.1;have b2 := (Q4r y).2.1;have b3 := l4 x hx;have b4 := l4 y hy;simp only [Lb, (hI x hx).2 N (by have := hsx x hx; omega), (hI y hy).2 N (by have := hsx y hy; omega)];rw [if_pos (by simp only [Mu, Lz, Do]; omega), if_pos (by simp only [Mu, Lt, Lz, Do]; omega)];simp
  rw [if_neg h5, if_neg h5, hW N (by omega)];simp only [Lb]
  have hfi := Qer N v.Kind [v] [v.inn] rfl (by simp) (by simp; omega) (by omega) (fun p hp => by
   have : p = (v, v.inn) := by simpa using hp
   subst this
   exact ⟨hf.num, by simp only []; omega, by simp only []; omega, by simp only []; omega, by simp only []; omega⟩)
  have hz' : [v].zip [v.inn] = [(v, v.inn)] := rfl;rw [hfi, hz'];simp only [Lb];have hco : Q34 v.Kind [(v, v.inn)] = v.cod := rfl;obtain ⟨e1, _⟩ := Qt7 hf hc h5;obtain ⟨d1, _, _⟩ := Q7m _ _ e1;have hdl := (Q4r v).2.2 v.cod;rw [hco, Qg5 N v.cod v v.inn d1 hf.num (by omega) (by omega) (by omega) (by omega) (by omega)];simp only [Lb];rw [if_pos (by simp only [Mu, Lz, Do]; omega), Q81 (Qf3 d1)];rfl
theorem Qn1 (N : Nat) (v : Q0) (m : Int) (hf : Fine v) (hw : v.wgt < 4000000000) (hz : v.sz < 1000000000) (hN : 3 * v.sz + 301000 ≤ N) :
  Vr N v m = some (if Vc v m ≠ 0 then ([], Vc v m) else (v.nrm.byt, 0)) := by
 simp only [Vr, Q74 N v m hf (by omega) hz, Lb, Q9, Q01]
 by_cases h : Vc v m = 0
 ·rw [if_neg (by simp [h]), if_neg (by simp [h]), Qbv N v hf (by omega) hz]
  have hc : Vv v m = 0 := by
   unfold Vc at h;split at h
   ·cases h
   exact h
  simp only [Lb, (Z2p v.nrm m (Qhu hf) (Qdl v m hc) (by rw [Qim]; exact hw) (by rw [Qeg]; exact hz)).2 N (by rw [Qeg]; omega)]
 rw [if_pos h, if_pos h]
end
end Go.Av
namespace Go.Av
noncomputable section
open Go.Proofs
set_option maxRecDepth 100000
abbrev Qqp := Q1
mutual
def Q0.frm : Q0 → Qqp
 | .mk k n t is => ⟨⟨k, n, t, is⟩, Q0.frms is, if k = 24 then Q0.elm ⟨k, n, t, is⟩ else 0, if 22 ≤ k ∧ k ≤ 24 then ((Q0.inn ⟨k, n, t, is⟩).length : Int) else 0⟩
def Q0.frms : List Q0 → List Qqp
 | [] => []
 | v :: l => v.frm :: Q0.frms l
end
theorem Qs3 : ∀ l, Q0.frms l = l.map Q0.frm
 | [] => rfl
 | v :: l => by rw [Q0.frms, Qs3 l]; rfl
theorem Qgt (v : Q0) : v.frm = ⟨v, v.Items.map Q0.frm, if v.Kind = 24 then v.elm else 0, if 22 ≤ v.Kind ∧ v.Kind ≤ 24 then (v.inn.length : Int) else 0⟩ := by
 cases v; rw [Q0.frm, Qs3]
theorem Qut (v : Q0) : v.frm.v = v := by rw [Qgt]
theorem Qw2 (v : Q0) : v.frm.kids = v.Items.map Q0.frm := by rw [Qgt]
theorem Qat (l : List Qqp) : (Q1.rows l).length = l.length := by rw [Q1.rows_eq, Q5]
theorem Qxs (N : Nat) (code : Int) (v : Q0) (hc : ofB code = true) (hn : okU v.N') (h : v.Text.length < N) (hb : v.Text.length < 4611686018427387904) (hk : (ofS code).Kind ≠ 25) (hi : (ofS code).Items = true → 22 ≤ v.Kind ∧ v.Kind ≤ 24) (hl : v.inn.length < 1000000000000000000) :
  Y7 N v.frm code = some (Q6y code v v.inn) := by
 simp only [Y7, Je, Qut, Lb, Z0d N code v hn h hb, Q9, J6, Qat, Qw2, Mh, Q6y]
 by_cases hi' : (ofS code).Items = false
 ·rw [if_pos (by simp [hi']), if_pos hi']
 have hi' : (ofS code).Items = true := by simpa using hi'
 rw [if_neg (show ¬ ((!(ofS code).Items) = true) by simp [hi']), if_neg hk, if_neg (show ¬ ((ofS code).Items = false) by simp [hi'])]
 by_cases hs : (ofS code).Sized = true
 ·have hw := ((Q6d hc hi').1 hs).1;rw [if_neg (show ¬ ((!(ofS code).Sized) = true) by simp [hs]), if_neg (show ¬ (ofS code).Width = 0 by omega)]
  by_cases h4 : (ofS code).Width = 4
  ·rw [if_pos h4]; simp [h4]
  rw [if_neg h4, Qgt];simp only [if_pos (hi hi')];rw [Z1 _ (by omega)];split
  ·rename_i h5;rw [Q7c] at h5
   congr 1
   rw [Mq, Q7c]; simp [h4]; omega
  rename_i h5;rw [Q7c] at h5
  congr 1
  symm
  rw [decide_eq_false_iff_not]; omega
 have hs : (ofS code).Sized = false := by simpa using hs
 rw [if_pos (show (!(ofS code).Sized) = true by simp [hs]), if_pos (Qyd hc hi' hs)]
 congr 1
 rw [Mq, J6]; simp
theorem Qis {N : Nat} {k0 : Int → Option Int} {l : List Qqp} {s54 code : Int} {P : Qqp → Bool} (hb : l.length < 1000000000) (hR : ∀ f ∈ l, Y7 N f code = some (P f)) : ∀ (n k : Nat) (all : Bool), k ≤ l.length → l.length - k < n →
  Xc N k0 l s54 code n all (k : Int) = if (all && (l.drop k).all P) = true then some code else k0 (IntKind.i64.wrap (s54 + 1))
 | 0, k, all, _, h => by omega
 | n + 1, k, all, hk, hn => by
  simp only [Xc, Q9, Wm, Qat, Zs]
  by_cases h : k < l.length
  ·rw [if_pos (by omega), La h, Ln h];simp only [Lb, hR _ (Lp h)];rw [Z1 _ (by omega)]
   cases all with
   | false =>
    have ih := Qis (N := N) (k0 := k0) (s54 := s54) hb hR n (k + 1) false (by omega) (by omega);rw [if_neg (by simp)];simp only [Nw] at ih ⊢
    exact_mod_cast ih
   | true =>
    have ih := Qis (N := N) (k0 := k0) (s54 := s54) hb hR n (k + 1) (P l[k]) (by omega) (by omega);rw [if_pos rfl];simp only [Bf, Mo]
    exact_mod_cast ih
  rw [if_neg (by omega), Lm (by omega)];cases all <;> simp
theorem Qpb {N : Nat} {l : List Qqp} {v1 : List Int} {P : Int → Qqp → Bool} (hb : l.length < 1000000000) (hb1 : v1.length < 1000) (hN : l.length < N) (hR : ∀ c ∈ v1, ∀ f ∈ l, Y7 N f c = some (P c f)) : ∀ (n i : Nat), i ≤ v1.length → v1.length - i < n →
  Yx N l v1 n (i : Int) = some (((v1.drop i).find? (fun c => l.all (P c))).getD 0)
 | 0, i, _, h => by omega
 | n + 1, i, hi, hn => by
  simp only [Yx, Q9, Wm, Q5, Zs]
  by_cases h : i < v1.length
  ·rw [if_pos (by omega), La h];simp only [Lb];have := Qis (k0 := Yx N l v1 n) (s54 := (i : Int)) hb (hR _ (Lp h)) N 0 true (by omega) (by omega);rw [show (0 : Int) = ((0 : Nat) : Int) from rfl, this, Mj, Mo, Ln h, Dn]
   cases l.all (P v1[i]) with
   | true => simp
   | false =>
    rw [if_neg (by simp), Z1 _ (by omega)]
    exact_mod_cast Qpb hb hb1 hN hR n (i + 1) (by omega) (by omega)
  rw [if_neg (by omega), Lm (by omega)]; simp
theorem Qpk (N : Nat) (k : Int) (l : List Qqp) (P : Int → Qqp → Bool) (hb : l.length < 1000000000) (hN : l.length < N) (hN2 : 10 < N) (hR : ∀ c ∈ Uy k, ∀ f ∈ l, Y7 N f c = some (P c f)) : Ua N k l = some (((Uy k).find? (fun c => l.all (P c))).getD 0) := by
 have hc := Qgv k;simp only [Ua, Q3t, Lb];have := Qpb (N := N) (v1 := Uy k) hb (by omega) hN hR N 0 (by omega) (by omega);rw [Mj] at this;exact this
theorem Qlv (N : Nat) (k : Int) (l : List Q0) (hk : k ≠ 25) (hb : l.length < 1000000000) (hN : l.length < N) (hN2 : 10 < N) (hl : ∀ x ∈ l, x.Kind = k ∧ k ≤ 24 ∧ okU x.N' ∧ x.Text.length < N ∧ x.Text.length < 4611686018427387904 ∧ x.inn.length < 1000000000000000000) :
  Ua N k (l.map Q0.frm) = some (Q34 k (l.map fun x => (x, x.inn))) := by
 rw [Qpk N k (l.map Q0.frm) (fun c f => Q6y c f.v f.v.inn) (by simpa using hb) (by simpa using hN) hN2 (fun c hc f hf => by
  obtain ⟨x, hx, rfl⟩ := Mw.1 hf;obtain ⟨h1, h2, h3, h4, h5, h6⟩ := hl x hx;obtain ⟨d1, d2, d3⟩ := Q7m _ _ hc;rw [Qut]
  exact Qxs N c x d1 h3 h4 h5 (by omega) (fun hi => by rw [(Qrd c d1).items, d3] at hi; simp at hi; omega) h6)]
 unfold Q34 Qmq
 congr 3
 funext c
 rw [List.all_map, List.all_map]
 congr 1
 funext x
 simp only [Function.comp, Qut]
theorem Quk : Uy 25 = [0] := by decide +kernel
theorem Qp2 (N : Nat) (v : Q0) (m : Int) (hf : Fine v) (hc : Vv v m = 0) (hw : v.wgt < 4000000000) (hN : 300100 ≤ N) : V3 N v.frm = some (if v.Kind = 25 then 0 else v.cod) := by
 have ht := hf.text;have hk := Qbj hc;simp only [V3, Qut]
 by_cases h5 : v.Kind = 25
 ·rw [if_pos h5, h5, Qpk N 25 [v.frm] (fun _ _ => true) (by simp) (by simp; omega) (by omega) (fun c hc f hf => by
   rw [Quk] at hc
   have : c = 0 := by simpa using hc
   subst this;obtain ⟨o1, o2, o3⟩ := of0;simp only [Y7, Je, Lb, Q9, J6]
   rw [if_neg (by simp [o3]), if_pos o2]), Quk]
  rfl
 rw [if_neg h5]
 have := Qlv N v.Kind [v] h5 (by simp) (by simp; omega) (by omega) (fun x hx => by
  have : x = v := by simpa using hx
  subst this
  exact ⟨rfl, by omega, hf.num, by omega, by omega, (Qbl hw).1⟩)
 rw [show [v.frm] = [v].map Q0.frm from rfl, this];rfl
end
end Go.Av
namespace Go.Av
noncomputable section
open Go.Proofs
set_option maxRecDepth 100000
theorem Qj8 (v : Q0) : v.byt.length = 1 + (if v.Kind = 25 then (v.Items.map Q0.byt).flatten.length else (Jn v.cod v v.inn).length) := by
 rw [Qtc]
 split <;> simp <;> omega
theorem Qok {R : Qqp → Int → Option Int} {N : Nat} {f : Qqp} {l : List Q0} (hk : f.kids = l.map Q0.frm) (hb : l.length < 1000000000) (hl : (l.map Q0.byt).flatten.length < 1000000000000000000) (hN : 300100 ≤ N)
  (hv : ∀ x ∈ l, (∃ m, Vv x m = 0) ∧ Fine x ∧ x.wgt < 4000000000) (hR : ∀ x ∈ l, R x.frm (if x.Kind = 25 then 0 else x.cod) = some ((if x.Kind = 25 then (x.Items.map Q0.byt).flatten.length else (Jn x.cod x x.inn).length : Nat) : Int)) : ∀ (n i : Nat), i ≤ l.length → l.length - i < n →
  Yh R N f n (((l.take i).map Q0.byt).flatten.length : Nat) (i : Int) = some (((l.map Q0.byt).flatten.length : Nat) : Int)
 | 0, i, _, h => by omega
 | n + 1, i, hi, hn => by
  simp only [Yh, Q9, Wm, Qat, hk, Mh, Zs, Ll]
  by_cases h : i < l.length
  ·have hft := Q9p Q0.byt l i h;have h1 := Qik Q0.byt l (i + 1);rw [← hft, Lt] at h1;obtain ⟨⟨m, h2⟩, h3, h4⟩ := hv _ (Lp h);rw [if_pos (by omega), La h];simp only [Mp, Lb, Qp2 N l[i] m h3 h2 h4 hN, hR _ (Lp h)];have hbl := Qj8 l[i]
   have e : (((l.take i).map Q0.byt).flatten.length : Int) + IntKind.i64.wrap (1 + ((if l[i].Kind = 25 then (l[i].Items.map Q0.byt).flatten.length else (Jn l[i].cod l[i] l[i].inn).length : Nat) : Int)) = ((((l.take (i + 1)).map Q0.byt).flatten.length : Nat) : Int) := by
    rw [← hft, Lt, hbl];rw [Z1 _ (by omega)]
    push_cast; rfl
   rw [e, Z1 _ (by rw [← hft, Lt]; omega), Z1 _ (by omega)]
   exact_mod_cast Qok (N := N) hk hb hl hN hv hR n (i + 1) (by omega) (by omega)
  rw [if_neg (by omega), Lw (by omega)]
def FP (v : Q0) : Prop :=
 (∀ N, 2 * v.sz + 301000 ≤ N → ∀ c, (ofB c = true ∧ (ofS c).Kind = v.Kind ∧ v.Kind ≠ 25 ∧ Q6y c v v.inn = true) → Y6 N v.frm c = some ((Jn c v v.inn).length : Int)) ∧
 (∀ N, 2 * v.sz + 301000 ≤ N → v.Kind = 25 → Y6 N v.frm 0 = some ((v.Items.map Q0.byt).flatten.length : Int)) ∧
 ∀ N, 2 * v.sz + 300999 ≤ N → ∀ e i, Y3 N ⟨v, v.Items.map Q0.frm, e, i⟩ = some ((v.Items.map Q0.byt).flatten.length : Int)
theorem Qm8 (v : Q0) : ∀ m : Int, Fine v → Vv v m = 0 → v.wgt < 4000000000 → v.sz < 1000000000 → FP v := by
 induction v using Q0.ind with
 | h v ih =>
  intro m hf hc hw hz;have hs := v.sz_eq;have hsl := Q0.szs_len v.Items;obtain ⟨l1, l2, l3, l4⟩ := Qbl hw;have htx := hf.text
  have hit : ∀ x ∈ v.Items, ∃ m', Vv x m' = 0 := fun x hx => by
   rcases Q0m hc with ⟨k1, k2, k3⟩ | ⟨_, _, _, _, _, _, k7⟩
   ·rw [(Q23 k3).2.2.2.1] at hx; cases hx
   exact ⟨_, (k7 x hx).1⟩
  have hsx : ∀ x ∈ v.Items, x.sz + 1 ≤ v.sz := fun x hx => by have := Q0.szs_mem _ x hx; omega
  have hI : ∀ x ∈ v.Items, FP x := fun x hx => by
   obtain ⟨m', hm⟩ := hit x hx;exact ih x hx m' (hf.items x hx) hm (l4 x hx) (by have := hsx x hx; omega)
  have hW : ∀ N, 2 * v.sz + 300999 ≤ N → ∀ e i, Y3 N ⟨v, v.Items.map Q0.frm, e, i⟩ = some ((v.Items.map Q0.byt).flatten.length : Int) := by
   intro N hN e i;obtain ⟨N, rfl⟩ : ∃ N', N = N' + 1 := ⟨N - 1, by omega⟩
   have := Qok (R := Y6 N) (N := N) (f := ⟨v, v.Items.map Q0.frm, e, i⟩) (l := v.Items) rfl (by omega) l2 (by omega) (fun x hx => ⟨hit x hx, hf.items x hx, l4 x hx⟩) (fun x hx => by
    obtain ⟨p1, p2, _⟩ := hI x hx;obtain ⟨m', hm⟩ := hit x hx;have := hsx x hx
    by_cases h5 : x.Kind = 25
    ·rw [if_pos h5, if_pos h5]; exact p2 N (by omega) h5
    rw [if_neg h5, if_neg h5];obtain ⟨g1, g2⟩ := Qt7 (hf.items x hx) hm h5;obtain ⟨d1, d2, d3⟩ := Q7m _ _ g1
    exact p1 N (by omega) x.cod ⟨d1, d3, h5, g2⟩) N 0 (by omega) (by omega)
   exact this
  refine ⟨fun N hN c hcc => ?_, fun N hN h5 => ?_, hW⟩
  ·obtain ⟨c1, c2, c3, c4⟩ := hcc;obtain ⟨N, rfl⟩ : ∃ N', N = N' + 1 := ⟨N - 1, by omega⟩;show Xx (Y6 N) (Y3 N) N v.frm c = _;simp only [Xx, Je, Lb, Q9, J6, Qut];rw [if_neg (by omega)];have hww := Qoq c
   by_cases hi : (ofS c).Items = true
   ·rw [if_pos hi]
    have hkk : 22 ≤ v.Kind ∧ v.Kind ≤ 24 := by
     have h1 := hi;rw [(Qrd c c1).items, c2] at h1;have := Qbj hc;simp at h1; omega
    by_cases hs' : (ofS c).Sized = true
    ·rw [if_pos hs']
     have hin : v.frm.inner = (v.inn.length : Int) := by rw [Qgt]; simp only [if_pos hkk]
     have hd : (Jn c v v.inn).length = (ofS c).Width.toNat + ((ofS c).Width.toNat + v.inn.length) := by
      unfold Jn;rw [if_neg (by simp [hi]), if_neg (by simp [hs'])];simp [Jo]
     rw [hin, hd, Z1 (2 * (ofS c).Width) (by omega), Z1 _ (by omega)]
     congr 1
     omega
    have hs' : (ofS c).Sized = false := by simpa using hs'
    rw [if_neg (by simp [hs']), Qyd c1 hi hs']
    have hd : Jn c v v.inn = [] := by
     unfold Jn;rw [if_neg (by simp [hi]), if_pos hs']
    rw [hd]; rfl
   have hi : (ofS c).Items = false := by simpa using hi
   rw [if_neg (by simp [hi])]
   have hf' : Q38 c v = true := by unfold Q6y at c4; rw [if_pos hi] at c4; exact c4
   have hd : Jn c v v.inn = Q30 (ofS c) v := by unfold Jn; rw [if_pos hi, Z3o hf']
   have hl := Qb2 hf';rw [hd, hl]
   by_cases hs' : (ofS c).Sized = true
   ·rw [if_pos hs', if_pos hs', Z1 _ (by omega)]
    congr 1; push_cast; omega
   rw [if_neg hs', if_neg hs']
   congr 1; push_cast; omega
  obtain ⟨N, rfl⟩ : ∃ N', N = N' + 1 := ⟨N - 1, by omega⟩;show Xx (Y6 N) (Y3 N) N v.frm 0 = _;obtain ⟨o1, o2, o3⟩ := of0;simp only [Xx, Je, Lb, Q9, J6];rw [if_pos o2];rw [Qgt, hW N (by omega)];rfl
theorem Qp5 {N : Nat} {f : Qqp} {l : List Q0} {c : Int} (hk : f.kids = l.map Q0.frm) (he : f.element = c) (hb : l.length < 1000000000) (hl : (l.map fun x => Jn c x x.inn).flatten.length < 1000000000000000000)
  (hR : ∀ x ∈ l, Y6 N x.frm c = some ((Jn c x x.inn).length : Int)) : ∀ (n i : Nat), i ≤ l.length → l.length - i < n →
  Yb N f n ((1 + ((l.take i).map fun x => Jn c x x.inn).flatten.length : Nat) : Int) (i : Int) = some ((1 + (l.map fun x => Jn c x x.inn).flatten.length : Nat) : Int)
 | 0, i, _, h => by omega
 | n + 1, i, hi, hn => by
  simp only [Yb, Q9, Wm, Qat, hk, he, Mh, Zs, Ll]
  by_cases h : i < l.length
  ·have hft := Q9p (fun x => Jn c x x.inn) l i h;have h1 := Qik (fun x => Jn c x x.inn) l (i + 1);rw [← hft, Lt] at h1;rw [if_pos (by omega), La h];simp only [Mp, Lb, hR _ (Lp h)]
   have e : ((1 + ((l.take i).map fun x => Jn c x x.inn).flatten.length : Nat) : Int) + ((Jn c l[i] l[i].inn).length : Int) = ((1 + ((l.take (i + 1)).map fun x => Jn c x x.inn).flatten.length : Nat) : Int) := by
    rw [← hft, Lt]
    push_cast; omega
   rw [e, Z1 _ (by rw [← hft, Lt]; omega), Z1 _ (by omega)]
   exact_mod_cast Qp5 (N := N) hk he hb hl hR n (i + 1) (by omega) (by omega)
  rw [if_neg (by omega), Lw (by omega)]
theorem Qjr {R : Q0 → Option Qqp} {N : Nat} {v : Q0} {m : Int} (hf : Fine v) (hc : Vv v m = 0) (hw : v.wgt < 4000000000) (hz : v.sz < 1000000000) (hN : 2 * v.sz + 301000 ≤ N) (hR : ∀ x ∈ v.Items, R x = some x.frm) : ∀ (n i : Nat), i ≤ v.Items.length → v.Items.length - i < n →
  W0 R N v n (i : Int) ((v.Items.take i).map Q0.frm) = some v.frm
 | 0, i, _, h => by omega
 | n + 1, i, hi, hn => by
  have hs := v.sz_eq;have hsl := Q0.szs_len v.Items;simp only [W0, Q9, Wm, J6, Qh, Zs]
  by_cases h : i < v.Items.length
  ·rw [if_pos (by omega), La h];simp only [Lb, hR _ (Lp h)];rw [if_pos (by rw [Mu, Mh, Mc]; omega), Z1 _ (by omega)]
   have e : (v.Items.take i).map Q0.frm ++ [v.Items[i].frm] = (v.Items.take (i + 1)).map Q0.frm := by
    rw [Ma h, Nr]; rfl
   rw [e]
   exact_mod_cast Qjr hf hc hw hz hN hR n (i + 1) (by omega) (by omega)
  rw [if_neg (by omega), Lw (by omega)];obtain ⟨l1, l2, l3, l4⟩ := Qbl hw;obtain ⟨_, _, hW⟩ := Qm8 v m hf hc hw hz;have hfe := Qgt v
  by_cases h4 : v.Kind = 24
  ·rcases Q0m hc with ⟨k1, k2, k3⟩ | ⟨k1, k2, k3, k4, k5, k6, k7⟩
   ·omega
   have hnn := (Q5i k4).2.1 h4
   rw [if_pos h4, Z1 _ (by omega), Qlv N v.N' v.Items (by omega) (by omega) (by omega) (by omega) (fun x hx => by
    have f1 := hf.items x hx;have f2 := f1.text;have f3 := (Qbl (l4 x hx)).1;have := (k7 x hx).2 h4;rw [Qel (k7 x hx).1] at this
    exact ⟨this, by omega, f1.num, by omega, by omega, f3⟩)]
   have hel : Q34 v.N' (v.Items.map fun x => (x, x.inn)) = v.elm := rfl;obtain ⟨e1, e2⟩ := Qyu hf hc h4;obtain ⟨d1, d2, d3⟩ := Q7m _ _ e1
   have := Qp5 (N := N) (f := ⟨v, v.Items.map Q0.frm, v.elm, 0⟩) (l := v.Items) (c := v.elm) rfl rfl (by omega) (l3 v.elm) (fun x hx => by
    have := (k7 x hx).2 h4;rw [Qel (k7 x hx).1] at this
    exact (Qm8 x _ (hf.items x hx) (k7 x hx).1 (l4 x hx) (by have := Q0.szs_mem _ x hx; omega)).1 N (by have := Q0.szs_mem _ x hx; omega) v.elm ⟨d1, by rw [d3, this], by omega, e2 x hx⟩) N 0 (by omega) (by omega)
   have hal : Vw N ⟨v, v.Items.map Q0.frm, v.elm, 0⟩ = some (v.inn.length : Int) := by
    have hin := Qls v;rw [if_pos h4] at hin
    have hil : v.inn.length = 1 + (v.Items.map fun x => Jn v.elm x x.inn).flatten.length := by rw [hin]; simp; omega
    rw [hil]; exact this
   simp only [Lb, hel, h4, hal];rw [if_neg (by decide), if_neg (by decide), if_pos (by decide), hfe];simp only [h4];rfl
  rw [if_neg h4]
  by_cases h2 : v.Kind = 22
  ·rw [if_pos (by simp [h2]), hW N (by omega), hfe];have hin := Qls v;rw [if_neg h4, if_neg (by omega)] at hin;rw [hin];simp only [Lb, h2];rfl
  rw [if_neg (by simpa using h2)]
  by_cases h3 : v.Kind = 23
  ·rw [if_pos (by simp [h3]), hW N (by omega), hfe];have hin := Qls v;rw [if_neg h4, if_neg (by omega)] at hin;rw [hin];simp only [Lb, h3];rfl
  rw [if_neg (by simpa using h3), if_neg (by simpa using h4), hfe, if_neg h4, if_neg (by omega)]
theorem Qkn : ∀ (N : Nat) (v : Q0) (m : Int), Fine v → Vv v m = 0 → v.wgt < 4000000000 → v.sz < 1000000000 → 3 * v.sz + 301000 < N → Ut N v = some v.frm
 | 0, v, _, _, _, _, _, h => by omega
 | N + 1, v, m, hf, hc, hw, hz, hN => by
  have hs := v.sz_eq;have hsl := Q0.szs_len v.Items;obtain ⟨l1, l2, l3, l4⟩ := Qbl hw
  have := Qjr (R := Ut N) (N := N) hf hc hw hz (by omega) (fun x hx => by
   have h1 := Q0.szs_mem _ x hx
   have h2 : ∃ m', Vv x m' = 0 := by
    rcases Q0m hc with ⟨k1, k2, k3⟩ | ⟨_, _, _, _, _, _, k7⟩
    ·rw [(Q23 k3).2.2.2.1] at hx; cases hx
    exact ⟨_, (k7 x hx).1⟩
   obtain ⟨m', hm⟩ := h2
   exact Qkn N x m' (hf.items x hx) hm (l4 x hx) (by omega) (by omega)) N 0 (by omega) (by omega)
  exact this
theorem Qub {v : Q0} {m : Int} (h : Vc v m = 0) : Vv v m = 0 ∧ 0 ≤ m ∧ m ≤ 32 := by
 unfold Vc at h;split at h
 ·cases h
 rename_i hr;unfold Q8m at hr;simp at hr;exact ⟨h, hr.1, hr.2⟩
theorem Z0l (N : Nat) (v : Q0) (m : Int) (hf : Fine v) (hw : v.wgt < 4000000000) (hz : v.sz < 1000000000) (hN : 3 * v.sz + 302000 ≤ N) : Gx N v m = some (if Vc v m ≠ 0 then (0, Vc v m) else ((v.nrm.byt.length : Int), 0)) := by
 simp only [Gx, Qlk N v m hf (by omega) hz, Lb, Q9, Q01]
 by_cases h : Vc v m = 0
 ·obtain ⟨hc, _⟩ := Qub h;have hnf := Qhu hf;have hnc := Qdl v m hc
  have hnw : v.nrm.wgt < 4000000000 := by rw [Qim]; exact hw
  have hnz : v.nrm.sz < 1000000000 := by rw [Qeg]; exact hz
  have hl := (Q4r v.nrm).2.1;have hbl := Qj8 v.nrm;rw [if_neg (by simp [h]), if_neg (by simp [h]), Qm2 N v (by omega) hz];simp only [Lb];rw [Qkn N v.nrm m hnf hnc hnw hnz (by rw [Qeg]; omega)];simp only [Lb];rw [Qp2 N v.nrm m hnf hnc hnw (by omega)];simp only [Lb];obtain ⟨p1, p2, _⟩ := Qm8 v.nrm m hnf hnc hnw hnz
  by_cases h5 : v.nrm.Kind = 25
  ·rw [if_pos h5] at hbl ⊢;rw [p2 N (by rw [Qeg]; omega) h5];simp only [Lb];rw [Z1 _ (by omega), hbl]; push_cast; rfl
  rw [if_neg h5] at hbl ⊢;obtain ⟨g1, g2⟩ := Qt7 hnf hnc h5;obtain ⟨d1, d2, d3⟩ := Q7m _ _ g1;rw [p1 N (by rw [Qeg]; omega) _ ⟨d1, d3, h5, g2⟩];simp only [Lb];rw [Z1 _ (by omega), hbl]; push_cast; rfl
 rw [if_pos h, if_pos h]
end
end Go.Av
namespace Go.Av
noncomputable section
open Go.Proofs
set_option maxRecDepth 100000
theorem Z1w (v : Q0) (h : v.txt) : v.wgt ≤ 430 * v.sz := by
 induction v using Q0.ind with
 | h v ih =>
  rw [Q0.txt_eq] at h
  have hl : ∀ l : List Q0, (∀ x ∈ l, x.wgt ≤ 430 * x.sz) → Q0.wgts l ≤ 430 * Q0.szs l := by
   intro l
   induction l with
   | nil => intro _; simp [Q0.wgts]
   | cons x l ihl =>
    intro h;have h1 := h x (.head _);have h2 := ihl (fun y hy => h y (.tail _ hy));simp only [Q0.wgts, Q0.szs]; omega
  have := hl v.Items (fun x hx => ih x hx (Qid _ h.2 x hx));rw [v.wgt_eq, v.sz_eq]; omega
end
end Go.Av
namespace Go.Av
noncomputable section
open Go.Proofs
set_option maxRecDepth 100000
end
end Go.Av
namespace Go.Av
noncomputable section
open Go.Proofs
set_option maxRecDepth 100000
end
end Go.Av
namespace Go.Av
noncomputable section
open Go.Proofs
set_option maxRecDepth 100000
def Q8t (l : Z3) : Bool := decide (16 ≤ l.MaxPacket ∧ l.MaxPacket ≤ 1048576 ∧ 0 ≤ l.MaxDepth ∧ l.MaxDepth ≤ 32)
def Qjd (f : Q7) : Bool := decide (0 ≤ f.Channel ∧ f.Channel ≤ 65535 ∧ f.Ext.length ≤ 1012 ∧ f.Ext.length % 4 = 0)
noncomputable def Q8z (m : Int) : List Q0 → Int
 | [] => 0
 | x :: l => if Vc x m ≠ 0 then Vc x m else Q8z m l
def Q1e (l : List Q0) : List UInt8 := (l.map fun x => x.nrm.byt).flatten
def Q9o (f : Q7) : Nat := 8 + f.Ext.length + (Q1e f.Values).length
noncomputable def Q18 (f : Q7) (l : Z3) : Int :=
 if Q8t l = false then 2 else if ¬ (f.Type' = 0 ∨ f.Type' = 1) then 8 else if Qjd f = false then 2 else if 1000 < f.Values.length then 4
 else if Q8z l.MaxDepth f.Values ≠ 0 then Q8z l.MaxDepth f.Values else if l.MaxPacket < (Q9o f : Int) then 4 else 0
def Qn5 (f : Q7) : List UInt8 := [Q8g (2 + f.Ext.length / 4 : Nat), Q8g f.Type'] ++ Q6w f.Channel.toNat 2 ++ f.Ext
def Qrj (f : Q7) : List UInt8 := Q6w (Q9o f) 4 ++ (Qn5 f ++ Q1e f.Values)
structure FB (f : Q7) : Prop where
 fine : ∀ x ∈ f.Values, Fine x
 sz : Q0.szs f.Values < 160000000
 wgt : Q0.wgts f.Values < 4000000000
theorem FB.one {f : Q7} (h : FB f) : ∀ x ∈ f.Values, Fine x ∧ x.sz < 160000000 ∧ x.wgt < 4000000000 := fun x hx => by
 have h1 := Q0.szs_mem _ x hx;have h2 := Qi5 _ x hx;have h3 := h.sz;have h4 := h.wgt;exact ⟨h.fine x hx, by omega, by omega⟩
theorem FB.len {f : Q7} (h : FB f) : f.Values.length < 160000000 := by
 have h1 := Q0.szs_len f.Values;have h2 := h.sz;omega
theorem Qjy (l : List Q0) : (Q1e l).length ≤ Q0.wgts l := by
 unfold Q1e
 induction l with
 | nil => simp
 | cons x l ih =>
  have h1 := (Q4r x.nrm).2.1;rw [Qim] at h1;simp only [Mn, Mz, Lt, Q0.wgts]; omega
theorem Ql3 (l m : List Q0) : Q1e (l ++ m) = Q1e l ++ Q1e m := by simp [Q1e]
theorem Qsw (x : Q0) : Q1e [x] = x.nrm.byt := by simp [Q1e]
theorem Qh7 (l : List Q0) (i : Nat) (h : i < l.length) : Q1e (l.take i) ++ l[i].nrm.byt = Q1e (l.take (i + 1)) := by
 rw [Ma h, Ql3, Qsw]
theorem Qo6 (l : List Q0) (i : Nat) : (Q1e (l.take i)).length ≤ (Q1e l).length := by
 conv => rhs; rw [← Nj i l, Ql3, Lt]
 omega
theorem Qha (N : Nat) (l : Z3) : Ge N l = some (Q8t l) := by
 unfold Ge Q8t;simp only [Q9, Qfb, Q7c]
 repeat' split
 all_goals (congr 1; symm)
 ·rw [Mq]; simp only [decide_eq_true_eq, Q7c]; omega
 all_goals (rw [decide_eq_false_iff_not]; omega)
theorem Qir (N : Nat) (l : Z3) : Jd N l = some (Q8t l) := Qha N l
theorem Qvq (N : Nat) (n : Int) : Gc N n = some (decide (n = 0 ∨ n = 1)) := by
 unfold Gc;simp only [Q9, J6];split
 ·rename_i h; simp [h]
 rename_i h
 congr 1
 rw [Mq, J6]; simp [h]
theorem Qlx {m : Int} : ∀ {l : List Q0}, Q8z m l = 0 → ∀ x ∈ l, Vc x m = 0
 | y :: l, h, x, hx => by
  rw [Q8z] at h;split at h
  ·rename_i h1; exact absurd h h1
  rename_i h1
  rcases Mf.1 hx with rfl | hx
  ·exact Lu h1
  exact Qlx h x hx
theorem Quc {m : Int} : ∀ {l : List Q0}, (∀ x ∈ l, Vc x m = 0) → Q8z m l = 0
 | [], _ => rfl
 | y :: l, h => by
  rw [Q8z, if_neg (by simp [h y (.head _)])];exact Quc (fun x hx => h x (.tail _ hx))
theorem Qgm {N : Nat} (hN : 800000000 ≤ N) {f : Q7} {l : Z3} (hf : FB f) (he : f.Ext.length ≤ 1012) (hv : ∀ x ∈ f.Values, Vc x l.MaxDepth = 0) : ∀ (n i : Nat), i ≤ f.Values.length → f.Values.length - i < n →
  Wg N f l n ((8 + f.Ext.length + (Q1e (f.Values.take i)).length : Nat) : Int) (i : Int) = some (if l.MaxPacket < (Q9o f : Int) then 4 else 0)
 | 0, i, _, h => by omega
 | n + 1, i, hi, hn => by
  simp only [Wg, Q9, Wm, Q9m, Qh, Zs];have hbl := Qjy f.Values;have hw := hf.wgt;have hfl := hf.len
  by_cases h : i < f.Values.length
  ·have hx := Lp h;obtain ⟨h1, h2, h3⟩ := hf.one _ hx;have ht := Qh7 f.Values i h;have hle := Qo6 f.Values (i + 1);rw [← ht, Lt] at hle;rw [if_pos (by omega), La h];simp only [Lb];rw [Z0l N _ _ h1 h3 (by omega) (by omega), if_neg (show ¬ (Vc f.Values[i] l.MaxDepth ≠ 0) by simp [hv _ hx])];simp only [Lb];rw [Z1 _ (by omega), Z1 _ (by omega), show ((8 + f.Ext.length + (Q1e (f.Values.take i)).length : Nat) : Int) + (f.Values[i].nrm.byt.length : Int) = ((8 + f.Ext.length + (Q1e (f.Values.take (i + 1))).length : Nat) : Int) by rw [← ht, Lt]; omega]
   exact_mod_cast Qgm hN hf he hv n (i + 1) (by omega) (by omega)
  rw [if_neg (by omega), Lw (by omega)];unfold Q9o;split
  ·rfl
  rfl
theorem Qg6 {N : Nat} (hN : 800000000 ≤ N) {f : Q7} {l : Z3} (hf : FB f) (he : f.Ext.length ≤ 1012) : ∀ (n i : Nat), i ≤ f.Values.length → f.Values.length - i < n → (∀ x ∈ f.Values.take i, Vc x l.MaxDepth = 0) →
  We N f l n (i : Int) = some (if Q8z l.MaxDepth (f.Values.drop i) ≠ 0 then Q8z l.MaxDepth (f.Values.drop i) else if l.MaxPacket < (Q9o f : Int) then 4 else 0)
 | 0, i, _, h, _ => by omega
 | n + 1, i, hi, hn, hv => by
  simp only [We, Q9, Wm, Q01, Qh, Zs];have hfl := hf.len
  by_cases h : i < f.Values.length
  ·have hx := Lp h;obtain ⟨h1, h2, h3⟩ := hf.one _ hx;rw [if_pos (by omega), La h];simp only [Lb];rw [Qlk N _ _ h1 (by omega) (by omega)];simp only [Lb];rw [Ln h]
   by_cases hc : Vc f.Values[i] l.MaxDepth = 0
   ·rw [if_neg (by simp [hc]), Q8z, if_neg (show ¬ (Vc f.Values[i] l.MaxDepth ≠ 0) by simp [hc]), Z1 _ (by omega)]
    exact_mod_cast Qg6 hN hf he n (i + 1) (by omega) (by omega) (fun x hx => by
     rw [Ma h] at hx
     rcases Ml.1 hx with hx | hx
     ·exact hv x hx
     have : x = f.Values[i] := by simpa using hx
     subst this; exact hc)
   rw [if_pos hc, Q8z, if_pos (show Vc f.Values[i] l.MaxDepth ≠ 0 from hc), if_pos hc]
  rw [if_neg (by omega), Lm (by omega)];rw [Lw (by omega)] at hv;have := Qgm hN (l := l) hf he hv N 0 (by omega) (by omega);simp only [Cx] at this;rw [Z1 _ (by omega), show (8 + (f.Ext.length : Int)) = ((8 + f.Ext.length + (Q1e ([] : List Q0)).length : Nat) : Int) by simp [Q1e], show (0 : Int) = ((0 : Nat) : Int) from rfl, this];rfl
theorem Z2k (n : Nat) : ((n : Int)).tmod 4 = ((n % 4 : Nat) : Int) := by
 rw [Cb (by omega)]; omega
theorem Qpu {N : Nat} (hN : 800000000 ≤ N) (f : Q7) (l : Z3) (hf : FB f) : Wd N f l = some (Q18 f l) := by
 simp only [Wd, Qha, Qvq, Lb, Q9, Wm, Q9m, Q01, Qh, Z2k, Q18]
 cases hr : Q8t l with
 | false => rfl
 | true =>
  simp only [Mg, Lf, if_false, Me]
  by_cases ht : f.Type' = 0 ∨ f.Type' = 1
  ·rw [decide_eq_true ht];simp only [Mg, Lf, if_false, ht, not_true_eq_false]
   cases ho : Qjd f with
   | false =>
    simp only [if_true];unfold Qjd at ho;rw [decide_eq_false_iff_not] at ho
    repeat' split
    all_goals first | rfl | (exfalso; apply ho; omega)
   | true =>
    unfold Qjd at ho;rw [decide_eq_true_eq] at ho;simp only [Me, if_false];rw [if_neg (by omega), if_neg (by omega), if_neg (by omega), if_neg (by omega)]
    by_cases h1 : 1000 < f.Values.length
    ·rw [if_pos (by omega), if_pos h1]
    rw [if_neg (by omega), if_neg h1];have := Qg6 hN (l := l) hf ho.2.2.1 N 0 (by omega) (by have := hf.len; omega) (by simp);rw [Mj] at this;exact this
  rw [decide_eq_false ht];simp only [Bh, if_true, ht, not_false_eq_true]
theorem Qai {f : Q7} {l : Z3} (h : Q18 f l = 0) : Q8t l = true ∧ (f.Type' = 0 ∨ f.Type' = 1) ∧ Qjd f = true ∧ f.Values.length ≤ 1000 ∧ (∀ x ∈ f.Values, Vc x l.MaxDepth = 0) ∧ (Q9o f : Int) ≤ l.MaxPacket := by
 unfold Q18 at h;split at h
 ·cases h
 rename_i h1;split at h
 ·cases h
 rename_i h2;split at h
 ·cases h
 rename_i h3;split at h
 ·cases h
 rename_i h4;split at h
 ·rename_i h5; exact absurd h h5
 rename_i h5;split at h
 ·cases h
 rename_i h6;exact ⟨by simpa using h1, Lu h2, by simpa using h3, by omega, Qlx (Lu h5), by omega⟩
theorem Qua {f : Q7} {l : Z3} (h1 : Q8t l = true) (h2 : f.Type' = 0 ∨ f.Type' = 1) (h3 : Qjd f = true) (h4 : f.Values.length ≤ 1000) (h5 : ∀ x ∈ f.Values, Vc x l.MaxDepth = 0) (h6 : (Q9o f : Int) ≤ l.MaxPacket) : Q18 f l = 0 := by
 unfold Q18;rw [if_neg (by simp [h1]), if_neg (by simp [h2]), if_neg (by simp [h3]), if_neg (by omega), if_neg (by simp [Quc h5]), if_neg (by omega)]
theorem Qys {f : Q7} (h : Qjd f = true) : 0 ≤ f.Channel ∧ f.Channel ≤ 65535 ∧ f.Ext.length ≤ 1012 ∧ f.Ext.length % 4 = 0 := by simpa [Qjd] using h
theorem Qjg {f : Q7} : (Qn5 f).length = 4 + f.Ext.length := by
 unfold Qn5; simp [Jo]; omega
end
end Go.Av
namespace Go.Av
noncomputable section
open Go.Proofs
set_option maxRecDepth 100000
theorem Qal {N : Nat} (hN : 800000000 ≤ N) {f : Q7} {m : Int} (hf : FB f) (ht : f.Type' = 0 ∨ f.Type' = 1) (ho : Qjd f = true) (hv : ∀ x ∈ f.Values, Vc x m = 0) : ∀ (n i : Nat), i ≤ f.Values.length → f.Values.length - i < n →
  Yj N f m n (Q1e (f.Values.take i)) (i : Int) = some (Qrj f)
 | 0, i, _, h => by omega
 | n + 1, i, hi, hn => by
  obtain ⟨o1, o2, o3, o4⟩ := Qys ho;simp only [Yj, Q9, Wm, Qh, Zs];have hbl := Qjy f.Values;have hw := hf.wgt;have hfl := hf.len
  by_cases h : i < f.Values.length
  ·have hx := Lp h;obtain ⟨h1, h2, h3⟩ := hf.one _ hx;have htk := Qh7 f.Values i h;have hle := Qo6 f.Values (i + 1);rw [← htk, Lt] at hle;rw [if_pos (by omega), La h];simp only [Lb];rw [Qn1 N _ _ h1 h3 (by omega) (by omega), if_neg (show ¬ (Vc f.Values[i] m ≠ 0) by simp [hv _ hx])];simp only [Lb];rw [if_pos (by simp only [Mu]; omega), Z1 _ (by omega), htk]
   exact_mod_cast Qal hN hf ht ho hv n (i + 1) (by omega) (by omega)
  rw [if_neg (by omega), Lw (by omega)]
  have e3 : IntKind.u64.wrap f.Channel = ((f.Channel.toNat : Nat) : Int) := by
   have h : ((f.Channel.toNat : Nat) : Int) = f.Channel := by omega
   have h2 := Q49 f.Channel.toNat (by omega);rw [h] at h2 ⊢; exact h2
  have p3 := Qh4 N f.Channel.toNat 2 (by omega) (by omega) (by omega);have p4 := Qh4 N (Q9o f) 4 (by unfold Q9o; omega) (by omega) (by omega);rw [show ((2 : Nat) : Int) = 2 from rfl] at p3;rw [show ((4 : Nat) : Int) = 4 from rfl] at p4
  have e1 : UInt8.ofNat (IntKind.u8.wrap (IntKind.i64.wrap (2 + IntKind.i64.wrap (((f.Ext.length : Int)).tdiv 4)))).toNat = Q8g (2 + f.Ext.length / 4 : Nat) := by
   have : ((f.Ext.length : Int)).tdiv 4 = ((f.Ext.length / 4 : Nat) : Int) := by
    rw [Int.tdiv_eq_ediv_of_nonneg (by omega)]; omega
   rw [this, Z1 ((f.Ext.length / 4 : Nat) : Int) (by omega), Z1 _ (by omega), Q81 (by omega)]; rfl
  have e2 : UInt8.ofNat (IntKind.u8.wrap f.Type').toNat = Q8g f.Type' := Q81 (by omega);rw [e3, e1, e2, p3];simp only [Lb];have hh : ([Q8g (2 + f.Ext.length / 4 : Nat), Q8g f.Type'] ++ Q6w f.Channel.toNat 2) ++ f.Ext = Qn5 f := rfl
  have hl2 : ([Q8g (2 + f.Ext.length / 4 : Nat), Q8g f.Type'] ++ Q6w f.Channel.toNat 2).length = 4 := by simp [Jo]
  rw [hh];have hhl := @Qjg f
  have e5 : IntKind.u64.wrap (IntKind.i64.wrap (IntKind.i64.wrap (((Qn5 f).length : Int) + 4) + ((Q1e f.Values).length : Int))) = ((Q9o f : Nat) : Int) := by
   rw [Z1 (((Qn5 f).length : Int) + 4) (by omega), Z1 _ (by omega), show ((Qn5 f).length : Int) + 4 + ((Q1e f.Values).length : Int) = ((Q9o f : Nat) : Int) by unfold Q9o; omega, Q49 _ (by unfold Q9o; omega)]
  rw [e5, p4];simp only [Lb];rw [if_pos (by simp [Nat.ble_eq, Jo]), if_pos (by simp only [Mu, hl2]; omega), if_pos (by simp only [Mu, Jo]; omega), if_pos (by simp only [Mu, Lt, Jo]; omega)];simp only [Qrj, Bp]
theorem Qah {N : Nat} (hN : 800000000 ≤ N) {f : Q7} {m : Int} (hf : FB f) (ht : f.Type' = 0 ∨ f.Type' = 1) (ho : Qjd f = true) (hv : ∀ x ∈ f.Values, Vc x m = 0) : Wn N f m = some (Qrj f) := by
 have := Qal hN hf ht ho hv N 0 (by omega) (by have := hf.len; omega);simp only [Cx, Di, Q1e, Ba, List.flatten_nil] at this;simpa only [Wn] using this
theorem Qpe {f : Q7} : (Qrj f).length = Q9o f := by
 have := @Qjg f;unfold Qrj Q9o; simp only [Lt, Jo]; omega
theorem Qas {N : Nat} (hN : 800000000 ≤ N) {f : Q7} {l : Z3} (hf : FB f) (ht : f.Type' = 0 ∨ f.Type' = 1) (ho : Qjd f = true) : ∀ (n i : Nat), i ≤ f.Values.length → f.Values.length - i < n → (∀ x ∈ f.Values.take i, Vc x l.MaxDepth = 0) →
  Zq N f l n (i : Int) = some (if Q8z l.MaxDepth (f.Values.drop i) ≠ 0 then Q8z l.MaxDepth (f.Values.drop i) else if l.MaxPacket < (Q9o f : Int) then 4 else 0)
 | 0, i, _, h, _ => by omega
 | n + 1, i, hi, hn, hv => by
  simp only [Zq, Q9, Wm, Q9m, Q01, Qh, Zs];have hfl := hf.len
  by_cases h : i < f.Values.length
  ·have hx := Lp h;obtain ⟨h1, h2, h3⟩ := hf.one _ hx;rw [if_pos (by omega), La h];simp only [Lb];rw [Q74 N _ _ h1 (by omega) (by omega)];simp only [Lb];rw [Ln h]
   by_cases hc : Vc f.Values[i] l.MaxDepth = 0
   ·rw [if_neg (by simp [hc]), Q8z, if_neg (show ¬ (Vc f.Values[i] l.MaxDepth ≠ 0) by simp [hc]), Z1 _ (by omega)]
    exact_mod_cast Qas hN (l := l) hf ht ho n (i + 1) (by omega) (by omega) (fun x hx => by
     rw [Ma h] at hx
     rcases Ml.1 hx with hx | hx
     ·exact hv x hx
     have : x = f.Values[i] := by simpa using hx
     subst this; exact hc)
   rw [if_pos hc, Q8z, if_pos (show Vc f.Values[i] l.MaxDepth ≠ 0 from hc), if_pos hc]
  rw [if_neg (by omega), Lm (by omega)];rw [Lw (by omega)] at hv;rw [Qah hN hf ht ho hv];simp only [Lb, Qpe]
  by_cases h4 : l.MaxPacket < (Q9o f : Int)
  ·rw [if_pos (show (Q9o f : Int) > l.MaxPacket from h4), if_neg (show ¬ (Q8z l.MaxDepth [] ≠ 0) from fun h => h rfl), if_pos h4]
  rw [if_neg (show ¬ ((Q9o f : Int) > l.MaxPacket) from h4), if_neg (show ¬ (Q8z l.MaxDepth [] ≠ 0) from fun h => h rfl), if_neg h4]
theorem Q9u {N : Nat} (hN : 800000000 ≤ N) {f : Q7} {l : Z3} (hf : FB f) (ht : f.Type' = 0 ∨ f.Type' = 1) (ho : Qjd f = true) : ∀ (n i : Nat), i ≤ f.Values.length → f.Values.length - i < n → (∀ x ∈ f.Values.take i, Vc x l.MaxDepth = 0) →
  Zp N f l n (i : Int) = some (if Q8z l.MaxDepth (f.Values.drop i) ≠ 0 then Q8z l.MaxDepth (f.Values.drop i) else if l.MaxPacket < (Q9o f : Int) then 4 else 0)
 | 0, i, _, h, _ => by omega
 | n + 1, i, hi, hn, hv => by
  simp only [Zp, Q9, Wm, Q9m, Q01, Qh, Zs];have hfl := hf.len
  by_cases h : i < f.Values.length
  ·have hx := Lp h;obtain ⟨h1, h2, h3⟩ := hf.one _ hx;rw [if_pos (by omega), La h];simp only [Lb];rw [Q74 N _ _ h1 (by omega) (by omega)];simp only [Lb];rw [Ln h]
   by_cases hc : Vc f.Values[i] l.MaxDepth = 0
   ·rw [if_neg (by simp [hc]), Q8z, if_neg (show ¬ (Vc f.Values[i] l.MaxDepth ≠ 0) by simp [hc]), Z1 _ (by omega)]
    exact_mod_cast Q9u hN (l := l) hf ht ho n (i + 1) (by omega) (by omega) (fun x hx => by
     rw [Ma h] at hx
     rcases Ml.1 hx with hx | hx
     ·exact hv x hx
     have : x = f.Values[i] := by simpa using hx
     subst this; exact hc)
   rw [if_pos hc, Q8z, if_pos (show Vc f.Values[i] l.MaxDepth ≠ 0 from hc), if_pos hc]
  rw [if_neg (by omega), Lm (by omega)];rw [Lw (by omega)] at hv;rw [Qah hN hf ht ho hv];simp only [Lb, Qpe]
  by_cases h4 : l.MaxPacket < (Q9o f : Int)
  ·rw [if_pos (show (Q9o f : Int) > l.MaxPacket from h4), if_neg (show ¬ (Q8z l.MaxDepth [] ≠ 0) from fun h => h rfl), if_pos h4]
  rw [if_neg (show ¬ ((Q9o f : Int) > l.MaxPacket) from h4), if_neg (show ¬ (Q8z l.MaxDepth [] ≠ 0) from fun h => h rfl), if_neg h4]
theorem Qj2 {N : Nat} (hN : 800000000 ≤ N) (f : Q7) (l : Z3) (hf : FB f) : Yn N f l = some (Q18 f l) := by
 simp only [Yn, Qir, Lb, Q9, Wm, Q9m, Q01, Qh, Z2k, Q18]
 cases hr : Q8t l with
 | false => rfl
 | true =>
  simp only [Mg, Lf, if_false, Me]
  by_cases ht : f.Type' = 0 ∨ f.Type' = 1
  ·simp only [ht, not_true_eq_false, if_false]
   have key : ∀ X Y : Option Int, (Qjd f = true → f.Values.length ≤ 1000 → X = Y) → (if f.Channel < 0 then some 2 else if f.Channel > 65535 then some 2 else if ((f.Ext.length % 4 : Nat) : Int) ≠ 0 then some 2 else if (f.Ext.length : Int) > 1012 then some 2 else if (f.Values.length : Int) > 1000 then some 4 else X) = (if Qjd f = false then some 2 else if 1000 < f.Values.length then some 4 else Y) := by
    intro X Y hXY
    cases ho : Qjd f with
    | false =>
     simp only [if_true];unfold Qjd at ho;rw [decide_eq_false_iff_not] at ho
     repeat' split
     all_goals first | rfl | (exfalso; apply ho; omega)
    | true =>
     obtain ⟨o1, o2, o3, o4⟩ := Qys ho;simp only [Me, if_false];rw [if_neg (by omega), if_neg (by omega), if_neg (by omega), if_neg (by omega)]
     by_cases h1 : 1000 < f.Values.length
     ·rw [if_pos (by omega), if_pos h1]
     rw [if_neg (by omega), if_neg h1];exact hXY ho (by omega)
   have hfl := hf.len
   have e1 := key (Zq N f l N 0) (some (if Q8z l.MaxDepth f.Values ≠ 0 then Q8z l.MaxDepth f.Values else if l.MaxPacket < (Q9o f : Int) then 4 else 0)) (fun ho _ => by
    have := Qas hN (l := l) hf ht ho N 0 (by omega) (by omega) (by simp);rw [Mj] at this
    exact_mod_cast this)
   have e2 := key (Zp N f l N 0) (some (if Q8z l.MaxDepth f.Values ≠ 0 then Q8z l.MaxDepth f.Values else if l.MaxPacket < (Q9o f : Int) then 4 else 0)) (fun ho _ => by
    have := Q9u hN (l := l) hf ht ho N 0 (by omega) (by omega) (by simp);rw [Mj] at this
    exact_mod_cast this)
   rw [e1, e2]
   have fin : (if Qjd f = false then some 2 else if 1000 < f.Values.length then some 4 else some (if Q8z l.MaxDepth f.Values ≠ 0 then Q8z l.MaxDepth f.Values else if l.MaxPacket < (Q9o f : Int) then 4 else 0)) = some (if Qjd f = false then (2 : Int) else if 1000 < f.Values.length then 4 else if Q8z l.MaxDepth f.Values ≠ 0 then Q8z l.MaxDepth f.Values else if l.MaxPacket < (Q9o f : Int) then 4 else 0) := by
    split
    ·rfl
    split <;> rfl
   rw [fin]
   rcases ht with ht | ht
   ·rw [if_neg (by simp [ht])]
   rw [if_pos (by omega), if_neg (by simp [ht])]
  simp only [ht, not_false_eq_true, if_true];rw [if_pos (by omega), if_pos (by omega)]
def Q7.nrm (f : Q7) : Q7 := ⟨f.Type', f.Channel, f.Ext, f.Values.map Q0.nrm⟩
theorem Qlh {N : Nat} (hN : 800000000 ≤ N) {f : Q7} (hf : FB f) : ∀ (n i : Nat), i ≤ f.Values.length → f.Values.length - i < n → Wx N f n (i : Int) ((f.Values.take i).map Q0.nrm) = some f.nrm
 | 0, i, _, h => by omega
 | n + 1, i, hi, hn => by
  have hfl := hf.len;simp only [Wx, Q9, Wm, Qh, Zs]
  by_cases h : i < f.Values.length
  ·obtain ⟨h1, h2, h3⟩ := hf.one _ (Lp h);rw [if_pos (by omega), La h];simp only [Lb];rw [Qm2 N _ (by omega) (by omega)];simp only [Lb];rw [if_pos (by rw [Mu, Mh, Mc]; omega), Z1 _ (by omega)]
   have e : (f.Values.take i).map Q0.nrm ++ [f.Values[i].nrm] = (f.Values.take (i + 1)).map Q0.nrm := by
    rw [Ma h, Nr]; rfl
   rw [e]
   exact_mod_cast Qlh hN hf n (i + 1) (by omega) (by omega)
  rw [if_neg (by omega), Lw (by omega)]; rfl
theorem Qsa {N : Nat} (hN : 800000000 ≤ N) (f : Q7) (hf : FB f) : Wz N f = some f.nrm := by
 have := Qlh hN hf N 0 (by omega) (by have := hf.len; omega);simp only [Cx, Ba, Di] at this;simpa only [Wz] using this
theorem Qc8 {N : Nat} (hN : 800000000 ≤ N) {f : Q7} (hf : FB f) : ∀ (n i : Nat), i ≤ f.Values.length → f.Values.length - i < n → Yt N f n (i : Int) ((f.Values.take i).map Q0.nrm) = some f.nrm
 | 0, i, _, h => by omega
 | n + 1, i, hi, hn => by
  have hfl := hf.len;simp only [Yt, Q9, Wm, Qh, Zs]
  by_cases h : i < f.Values.length
  ·obtain ⟨h1, h2, h3⟩ := hf.one _ (Lp h);rw [if_pos (by omega), La h];simp only [Lb];rw [Qbv N _ h1 (by omega) (by omega)];simp only [Lb];rw [if_pos (by rw [Mu, Mh, Mc]; omega), Z1 _ (by omega)]
   have e : (f.Values.take i).map Q0.nrm ++ [f.Values[i].nrm] = (f.Values.take (i + 1)).map Q0.nrm := by
    rw [Ma h, Nr]; rfl
   rw [e]
   exact_mod_cast Qc8 hN hf n (i + 1) (by omega) (by omega)
  rw [if_neg (by omega), Lw (by omega)]; rfl
theorem Qli {N : Nat} (hN : 800000000 ≤ N) (f : Q7) (hf : FB f) : Qv N f = some f.nrm := by
 have := Qc8 hN hf N 0 (by omega) (by have := hf.len; omega);simp only [Cx, Ba, Di] at this;simpa only [Qv] using this
theorem Q7.ext' {a b : Q7} (h1 : a.Type' = b.Type') (h2 : a.Channel = b.Channel) (h3 : a.Ext = b.Ext) (h4 : a.Values = b.Values) : a = b := by cases a; cases b; simp_all
noncomputable instance : DecidableEq Q7 := fun a b => decidable_of_iff (a.Type' = b.Type' ∧ a.Channel = b.Channel ∧ a.Ext = b.Ext ∧ a.Values = b.Values) ⟨fun h => Q7.ext' h.1 h.2.1 h.2.2.1 h.2.2.2, fun h => by rw [h]; exact ⟨rfl, rfl, rfl, rfl⟩⟩
theorem Qix (l m : List Q0) (i : Nat) (h : i < l.length) (h' : i < m.length) : decide (l.drop i = m.drop i) = (decide (l[i] = m[i]) && decide (l.drop (i + 1) = m.drop (i + 1))) := by
 rw [Ln h, Ln h', Mq];simp only [decide_eq_true_eq, Le, Bb]
theorem Qju {N : Nat} (hN : 800000000 ≤ N) {a b : Q7} (ha : Q0.szs a.Values < 700000000) (hl : a.Values.length = b.Values.length) : ∀ (n i : Nat), i ≤ a.Values.length → a.Values.length - i < n → X3 N a b n (i : Int) = some (decide (a.Values.drop i = b.Values.drop i))
 | 0, i, _, h => by omega
 | n + 1, i, hi, hn => by
  have hs := Q0.szs_len a.Values;simp only [X3, Q9, Wm, Qh, Zs]
  by_cases h : i < a.Values.length
  ·have h' : i < b.Values.length := by omega
   have hx := Q0.szs_mem _ _ (Lp h);rw [if_pos (by omega), La h, La h'];simp only [Lb];rw [Qsd N _ _ (by omega) (by omega), Qix _ _ i h h'];simp only [Lb];rw [Z1 _ (by omega)];have ih := Qju hN ha hl n (i + 1) (by omega) (by omega)
   have ih : X3 N a b n ((i : Int) + 1) = some (decide (a.Values.drop (i + 1) = b.Values.drop (i + 1))) := by exact_mod_cast ih
   rw [ih];cases decide (a.Values[i] = b.Values[i]) <;> rfl
  rw [if_neg (by omega), Lm (by omega), Lm (by omega)]; rfl
theorem Q7l {N : Nat} (hN : 800000000 ≤ N) (a b : Q7) (ha : Q0.szs a.Values < 700000000) : Yf N a b = some (decide (a = b)) := by
 have hs := Q0.szs_len a.Values;simp only [Yf, Q9, Q01, Q09, Qh]
 by_cases h1 : a.Type' = b.Type'
 ·rw [if_neg (by simp [h1])]
  by_cases h2 : a.Channel = b.Channel
  ·rw [if_neg (by simp [h2])]
   by_cases h3 : a.Ext = b.Ext
   ·rw [if_neg (by simp [h3])]
    by_cases h4 : a.Values.length = b.Values.length
    ·rw [if_neg (by simp [h4])];have := Qju hN ha h4 N 0 (by omega) (by omega);rw [Mj, Mj] at this
     have : X3 N a b N 0 = some (decide (a.Values = b.Values)) := by exact_mod_cast this
     rw [this]
     congr 1
     rw [Mq];simp only [decide_eq_true_eq];exact ⟨fun h => Q7.ext' h1 h2 h3 h, fun h => by rw [h]⟩
    rw [if_pos (by omega), decide_eq_false (fun h => h4 (by rw [h]))]
   rw [if_pos h3, decide_eq_false (fun h => h3 (by rw [h]))]
  rw [if_pos h2, decide_eq_false (fun h => h2 (by rw [h]))]
 rw [if_pos h1, decide_eq_false (fun h => h1 (by rw [h]))]
theorem Qcj {N : Nat} (hN : 800000000 ≤ N) {a b : Q7} (ha : Q0.szs a.Values < 700000000) (hl : a.Values.length = b.Values.length) : ∀ (n i : Nat), i ≤ a.Values.length → a.Values.length - i < n → Ze N a b n (i : Int) = some (decide (a.Values.drop i = b.Values.drop i))
 | 0, i, _, h => by omega
 | n + 1, i, hi, hn => by
  have hs := Q0.szs_len a.Values;simp only [Ze, Q9, Wm, Qh, Zs]
  by_cases h : i < a.Values.length
  ·have h' : i < b.Values.length := by omega
   have hx := Q0.szs_mem _ _ (Lp h);rw [if_pos (by omega), La h, La h'];simp only [Lb];rw [Qh8 N _ _ (by omega) (by omega), Qix _ _ i h h'];simp only [Lb];rw [Z1 _ (by omega)];have ih := Qcj hN ha hl n (i + 1) (by omega) (by omega)
   have ih : Ze N a b n ((i : Int) + 1) = some (decide (a.Values.drop (i + 1) = b.Values.drop (i + 1))) := by exact_mod_cast ih
   rw [ih];cases decide (a.Values[i] = b.Values[i]) <;> rfl
  rw [if_neg (by omega), Lm (by omega), Lm (by omega)]; rfl
theorem Qkh {N : Nat} (hN : 800000000 ≤ N) (a b : Q7) (ha : Q0.szs a.Values < 700000000) : Uf N a b = some (decide (a = b)) := by
 have hs := Q0.szs_len a.Values;simp only [Uf, Q9, Q01, Q09, Qh]
 by_cases h1 : a.Type' = b.Type'
 ·rw [if_neg (by simp [h1])]
  by_cases h2 : a.Channel = b.Channel
  ·rw [if_neg (by simp [h2])]
   by_cases h3 : a.Ext = b.Ext
   ·rw [if_neg (by simp [h3])]
    by_cases h4 : a.Values.length = b.Values.length
    ·rw [if_neg (by simp [h4])];have := Qcj hN ha h4 N 0 (by omega) (by omega);rw [Mj, Mj] at this
     have : Ze N a b N 0 = some (decide (a.Values = b.Values)) := by exact_mod_cast this
     rw [this]
     congr 1
     rw [Mq];simp only [decide_eq_true_eq];exact ⟨fun h => Q7.ext' h1 h2 h3 h, fun h => by rw [h]⟩
    rw [if_pos (by omega), decide_eq_false (fun h => h4 (by rw [h]))]
   rw [if_pos h3, decide_eq_false (fun h => h3 (by rw [h]))]
  rw [if_pos h2, decide_eq_false (fun h => h2 (by rw [h]))]
 rw [if_pos h1, decide_eq_false (fun h => h1 (by rw [h]))]
theorem Qor {N : Nat} (hN : 800000000 ≤ N) {a b : Q7} (ha : Q0.szs a.Values < 700000000) (hl : a.Values.length = b.Values.length) : ∀ (n i : Nat), i ≤ a.Values.length → a.Values.length - i < n → Z0 N a b n (i : Int) = some (decide (a.Values.drop i = b.Values.drop i))
 | 0, i, _, h => by omega
 | n + 1, i, hi, hn => by
  have hs := Q0.szs_len a.Values;simp only [Z0, Q9, Wm, Qh, Zs]
  by_cases h : i < a.Values.length
  ·have h' : i < b.Values.length := by omega
   have hx := Q0.szs_mem _ _ (Lp h);rw [if_pos (by omega), La h, La h'];simp only [Lb];rw [Qci N _ _ (by omega) (by omega), Qix _ _ i h h'];simp only [Lb];rw [Z1 _ (by omega)];have ih := Qor hN ha hl n (i + 1) (by omega) (by omega)
   have ih : Z0 N a b n ((i : Int) + 1) = some (decide (a.Values.drop (i + 1) = b.Values.drop (i + 1))) := by exact_mod_cast ih
   rw [ih];cases decide (a.Values[i] = b.Values[i]) <;> rfl
  rw [if_neg (by omega), Lm (by omega), Lm (by omega)]; rfl
theorem Qpp {N : Nat} (hN : 800000000 ≤ N) (a b : Q7) (ha : Q0.szs a.Values < 700000000) : Qk N a b = some (decide (a = b)) := by
 have hs := Q0.szs_len a.Values;simp only [Qk, Q9, Q01, Q09, Qh]
 by_cases h1 : a.Type' = b.Type'
 ·rw [if_neg (by simp [h1])]
  by_cases h2 : a.Channel = b.Channel
  ·rw [if_neg (by simp [h2])]
   by_cases h3 : a.Ext = b.Ext
   ·rw [if_neg (by simp [h3])]
    by_cases h4 : a.Values.length = b.Values.length
    ·rw [if_neg (by simp [h4])];have := Qor hN ha h4 N 0 (by omega) (by omega);rw [Mj, Mj] at this
     have : Z0 N a b N 0 = some (decide (a.Values = b.Values)) := by exact_mod_cast this
     rw [this]
     congr 1
     rw [Mq];simp only [decide_eq_true_eq];exact ⟨fun h => Q7.ext' h1 h2 h3 h, fun h => by rw [h]⟩
    rw [if_pos (by omega), decide_eq_false (fun h => h4 (by rw [h]))]
   rw [if_pos h3, decide_eq_false (fun h => h3 (by rw [h]))]
  rw [if_pos h2, decide_eq_false (fun h => h2 (by rw [h]))]
 rw [if_pos h1, decide_eq_false (fun h => h1 (by rw [h]))]
theorem Qjf {N : Nat} (hN : 800000000 ≤ N) {f : Q7} (hl : f.Values.length ≤ 6) : ∀ (n i : Nat), i ≤ f.Values.length → f.Values.length - i < n → ∃ b, Qu N f n (i : Int) = some b ∧ (b = true → ∀ x ∈ f.Values.drop i, x.sz ≤ 40 ∧ x.txt)
 | 0, i, _, h => by omega
 | n + 1, i, hi, hn => by
  simp only [Qu, Q9, Wm, Qh, Zs]
  by_cases h : i < f.Values.length
  ·rw [if_pos (by omega), La h];obtain ⟨b1, l1, l2⟩ := Qr6 N f.Values[i] (by omega);simp only [Lb, l1]
   cases b1 with
   | false => exact ⟨false, rfl, fun h => by cases h⟩
   | true =>
    rw [Z1 _ (by omega)];obtain ⟨b, e1, e2⟩ := Qjf hN hl n (i + 1) (by omega) (by omega);refine ⟨b, ?_, fun hb x hx => ?_⟩
    ·simp only [Mg, Lf, if_false]; exact_mod_cast e1
    rw [Ln h] at hx
    rcases Mf.1 hx with rfl | hx
    ·exact l2 rfl
    exact e2 hb x hx
  rw [if_neg (by omega), Lm (by omega)];exact ⟨true, rfl, fun _ x hx => by cases hx⟩
theorem Qmv {N : Nat} (hN : 800000000 ≤ N) (f : Q7) : ∃ b, Z8 N f = some b ∧ (b = true → f.Values.length ≤ 6 ∧ f.Ext.length ≤ 1100 ∧ ∀ x ∈ f.Values, x.sz ≤ 40 ∧ x.txt) := by
 simp only [Z8, Q9, Q9m, Qh]
 by_cases h1 : (f.Values.length : Int) > 6
 ·rw [if_pos h1]; exact ⟨false, rfl, fun h => by cases h⟩
 rw [if_neg h1]
 by_cases h2 : (f.Ext.length : Int) > 1100
 ·rw [if_pos h2]; exact ⟨false, rfl, fun h => by cases h⟩
 rw [if_neg h2];obtain ⟨b, e1, e2⟩ := Qjf hN (f := f) (by omega) N 0 (by omega) (by omega);refine ⟨b, by exact_mod_cast e1, fun hb => ⟨by omega, by omega, ?_⟩⟩;have := e2 hb
 rwa [Mj] at this
theorem Qgl : ∀ (l : List Q0), (∀ x ∈ l, x.sz ≤ 40 ∧ x.txt) → Q0.szs l ≤ 40 * l.length ∧ Q0.wgts l ≤ 17200 * l.length
 | [], _ => by simp [Q0.szs, Q0.wgts]
 | x :: m, h => by
  have h1 := h x (.head _);have h2 := Qgl m (fun y hy => h y (.tail _ hy));have h3 := Z1w x h1.2;simp only [Q0.szs, Q0.wgts, Lz]; omega
theorem Qvk {f : Q7} (hl : f.Values.length ≤ 6) (h : ∀ x ∈ f.Values, x.sz ≤ 40 ∧ x.txt) (hv : ∀ x ∈ f.Values, OkV x) : FB f := by
 obtain ⟨h1, h2⟩ := Qgl _ h;exact ⟨fun x hx => Z00 x (hv x hx) (h x hx).2, by omega, by omega⟩
end
end Go.Av
namespace Go.Av
noncomputable section
theorem Qij (x y : List UInt8) : Q35 .eql x y = decide (x = y) := by
 show (x == y) = _
 by_cases h : x = y
 ·rw [h]; simp
 rw [decide_eq_false h]; exact beq_eq_false_iff_ne.2 h
theorem Qnv (x y : List UInt8) : Q35 .neq x y = decide (x ≠ y) := by
 show (!(x == y)) = _
 by_cases h : x = y
 ·rw [h]; simp
 rw [decide_eq_true h, beq_eq_false_iff_ne.2 h]; rfl
section
variable {T : Type}
theorem Qag {L : Nat → Nat → Int → Option Bool} {a b : List T} {eq : T → T → Bool} (heq : ∀ x y, eq x y = true ↔ x = y) (hab : a.length = b.length) (hm : a.length ≤ maxLen)
  (Qr : ∀ N n (i : Nat) (h : i < a.length) (h' : i < b.length), L N (n + 1) (i : Int) = cond (!(eq a[i] b[i])) (some false) (L N n (wrap .i64 ((i : Int) + 1)))) (fin : ∀ N n, L N (n + 1) (a.length : Int) = some true) :
  TotP (fun N => L N N 0) (fun v => v = true ↔ a = b) := by
 have hml := Qa8;refine Qgn (L := L) a.length (fun i => ∀ j (h : j < a.length) (h' : j < b.length), j < i → a[j] = b[j]) (fun i hi hj => ?_) (fun hj => ?_) (fun j _ _ hj => by omega)
 ·have e : (fun N n => L N (n + 1) (i : Int)) = fun N n => cond (!(eq (a[i]'hi) (b[i]'(by omega)))) (some false) (L N n (wrap .i64 ((i : Int) + 1))) := by
   funext N n; exact Qr N n i hi (by omega)
  rw [e, w64 _ (by omega)];refine Stp.cond (fun h => Stp.ret ?_) (fun h => Stp.go (L := L) _ ⟨by omega, fun j hj1 hj2 hji => ?_⟩)
  ·have h : ¬ eq (a[i]'hi) (b[i]'(by omega)) = true := by simpa using h
   refine ⟨fun h => (by cases h), fun e => absurd ((heq _ _).2 ?_) h⟩;subst e; rfl
  have h : eq (a[i]'hi) (b[i]'(by omega)) = true := by simpa using h
  by_cases e : j = i
  ·subst e; exact (heq _ _).1 h
  exact hj j hj1 hj2 (by omega)
 have e : (fun N n => L N (n + 1) (a.length : Int)) = fun _ _ => some true := by funext N n; exact fin N n
 rw [e];exact Stp.ret ⟨fun _ => List.ext_getElem hab (fun j h1 h2 => hj j h1 h2 h1), fun _ => rfl⟩
end
theorem Z0g {x y : Zz} : (((x.ID : Int) == y.ID) && (((x.N' : Int) == y.N') && (((x.Text : List UInt8) == y.Text) && (((x.Value : List UInt8) == y.Value) && true)))) = true ↔ x = y := by
 cases x; cases y; simp
theorem Zbn {x y : Q48} : (((x.Radius : Int) == y.Radius) && (((x.Node : List UInt8) == y.Node) && true)) = true ↔ x = y := by
 cases x; cases y; simp
theorem Qs8 {x y : Zh} : (((x.Topic : List UInt8) == y.Topic) && (((x.QoS : Int) == y.QoS) && (((x.NoLocal : Bool) == y.NoLocal) && (((x.AsPublished : Bool) == y.AsPublished) && (((x.Handling : Int) == y.Handling) && true))))) = true ↔ x = y := by
 cases x; cases y; simp
theorem Qcb (a b : List Zz) (ha : a.length ≤ maxLen) : TotP (fun N => V4 N a b) (fun v => v = true ↔ a = b) := by
 unfold V4;rw [Q5, Q5, Vj];refine TotP.cond (fun h => .ret ⟨fun h => (by cases h), fun e => ?_⟩) (fun h => ?_)
 ·have := of_decide_eq_true h; subst e; exact absurd rfl this
 have h := of_decide_eq_false h
 have hab : a.length = b.length := by omega
 refine Qag (L := fun N n i => Xl N a b n i) (eq := fun x y => ((x.ID : Int) == y.ID) && (((x.N' : Int) == y.N') && (((x.Text : List UInt8) == y.Text) && (((x.Value : List UInt8) == y.Value) && true)))) (fun _ _ => Z0g) hab ha (fun N n i h h' => ?_) (fun N n => ?_)
 ·show cond (Q3 .lss (i : Int) ((Qd Zz.cells a).length : Int)) ((idx a (i : Int)).bind _) _ = _;rw [Q5, Xb, decide_eq_true (by omega), Xz h, Xz h']; rfl
 show cond (Q3 .lss (a.length : Int) ((Qd Zz.cells a).length : Int)) _ _ = _;rw [Q5, Xb, decide_eq_false (by omega)]; rfl
theorem Qjz (a b : List Zz) (ha : a.length ≤ maxLen) : TotP (fun N => Q3p N a b) (fun v => v = true ↔ a = b) := by
 unfold Q3p;rw [Q5, Q5, Vj];refine TotP.cond (fun h => .ret ⟨fun h => (by cases h), fun e => ?_⟩) (fun h => ?_)
 ·have := of_decide_eq_true h; subst e; exact absurd rfl this
 have h := of_decide_eq_false h
 have hab : a.length = b.length := by omega
 refine Qag (L := fun N n i => Gg N a b n i) (eq := fun x y => ((x.ID : Int) == y.ID) && (((x.N' : Int) == y.N') && (((x.Text : List UInt8) == y.Text) && (((x.Value : List UInt8) == y.Value) && true)))) (fun _ _ => Z0g) hab ha (fun N n i h h' => ?_) (fun N n => ?_)
 ·show cond (Q3 .lss (i : Int) ((Qd Zz.cells a).length : Int)) ((idx a (i : Int)).bind _) _ = _;rw [Q5, Xb, decide_eq_true (by omega), Xz h, Xz h']; rfl
 show cond (Q3 .lss (a.length : Int) ((Qd Zz.cells a).length : Int)) _ _ = _;rw [Q5, Xb, decide_eq_false (by omega)]; rfl
theorem Qm4 (a b : List Q48) (ha : a.length ≤ maxLen) : TotP (fun N => Ym N a b) (fun v => v = true ↔ a = b) := by
 unfold Ym;rw [Q5, Q5, Vj];refine TotP.cond (fun h => .ret ⟨fun h => (by cases h), fun e => ?_⟩) (fun h => ?_)
 ·have := of_decide_eq_true h; subst e; exact absurd rfl this
 have h := of_decide_eq_false h
 have hab : a.length = b.length := by omega
 refine Qag (L := fun N n i => Z7 N a b n i) (eq := fun x y => ((x.Radius : Int) == y.Radius) && (((x.Node : List UInt8) == y.Node) && true)) (fun _ _ => Zbn) hab ha (fun N n i h h' => ?_) (fun N n => ?_)
 ·show cond (Q3 .lss (i : Int) ((Qd Q48.cells a).length : Int)) ((idx a (i : Int)).bind _) _ = _;rw [Q5, Xb, decide_eq_true (by omega), Xz h, Xz h']; rfl
 show cond (Q3 .lss (a.length : Int) ((Qd Q48.cells a).length : Int)) _ _ = _;rw [Q5, Xb, decide_eq_false (by omega)]; rfl
theorem Qfw (a b : List Zh) (ha : a.length ≤ maxLen) : TotP (fun N => Vd N a b) (fun v => v = true ↔ a = b) := by
 unfold Vd;rw [Q5, Q5, Vj];refine TotP.cond (fun h => .ret ⟨fun h => (by cases h), fun e => ?_⟩) (fun h => ?_)
 ·have := of_decide_eq_true h; subst e; exact absurd rfl this
 have h := of_decide_eq_false h
 have hab : a.length = b.length := by omega
 refine Qag (L := fun N n i => Yy N a b n i) (eq := fun x y => ((x.Topic : List UInt8) == y.Topic) && (((x.QoS : Int) == y.QoS) && (((x.NoLocal : Bool) == y.NoLocal) && (((x.AsPublished : Bool) == y.AsPublished) && (((x.Handling : Int) == y.Handling) && true))))) (fun _ _ => Qs8) hab ha (fun N n i h h' => ?_) (fun N n => ?_)
 ·show cond (Q3 .lss (i : Int) ((Qd Zh.cells a).length : Int)) ((idx a (i : Int)).bind _) _ = _;rw [Q5, Xb, decide_eq_true (by omega), Xz h, Xz h']; rfl
 show cond (Q3 .lss (a.length : Int) ((Qd Zh.cells a).length : Int)) _ _ = _;rw [Q5, Xb, decide_eq_false (by omega)]; rfl
theorem Qn3 (a b : List Int) (ha : a.length ≤ maxLen) : TotP (fun N => Q08 N a b) (fun v => v = true ↔ a = b) := by
 unfold Q08;rw [Q5, Q5, Vj];refine TotP.cond (fun h => .ret ⟨fun h => (by cases h), fun e => ?_⟩) (fun h => ?_)
 ·have := of_decide_eq_true h; subst e; exact absurd rfl this
 have h := of_decide_eq_false h
 have hab : a.length = b.length := by omega
 refine Qag (L := fun N n i => U5 N a b n i) (eq := fun x y => Q3 .eql x y) (fun x y => by rw [Q0z]; exact decide_eq_true_iff) hab ha (fun N n i h h' => ?_) (fun N n => ?_)
 ·show cond (Q3 .lss (i : Int) ((Qd (cI .i64) a).length : Int)) ((idx a (i : Int)).bind _) _ = _;rw [Q5, Xb, decide_eq_true (by omega), Xz h, Xz h']; rfl
 show cond (Q3 .lss (a.length : Int) ((Qd (cI .i64) a).length : Int)) _ _ = _;rw [Q5, Xb, decide_eq_false (by omega)]; rfl
structure Z15 (p : Zb) : Prop where
 codes : p.Codes.length ≤ maxLen
 filters : p.Filters.length ≤ maxLen
 props : p.Props.length ≤ maxLen
 wprops : p.Will.Props.length ≤ maxLen
theorem Qkv (a b : Q0q) (ha : a.Props.length ≤ maxLen) : TotP (fun N => Q07 N a b) (fun v => v = true ↔ a = b) := by
 obtain ⟨t, p, q, r, l⟩ := a; obtain ⟨t', p', q', r', l'⟩ := b;unfold Q07;dsimp only;rw [Qij, Qij, Q0z];refine TotP.cond (fun h1 => ?_) (fun h1 => .ret ⟨fun h => (by cases h), fun e => ?_⟩)
 ·refine TotP.cond (fun h2 => ?_) (fun h2 => .ret ⟨fun h => (by cases h), fun e => ?_⟩)
  ·refine TotP.cond (fun h3 => ?_) (fun h3 => .ret ⟨fun h => (by cases h), fun e => ?_⟩)
   ·refine TotP.cond (fun h4 => ?_) (fun h4 => .ret ⟨fun h => (by cases h), fun e => ?_⟩)
    ·refine TotP.bind (Qcb l l' ha) (fun v hv => .ret ?_);rw [hv];have h1 := of_decide_eq_true h1; have h2 := of_decide_eq_true h2; have h3 := of_decide_eq_true h3; have h4 := eq_of_beq h4;subst h1 h2 h3 h4;simp
    injection e with _ _ _ e _; subst e; simp at h4
   injection e with _ _ e _ _; exact absurd e (of_decide_eq_false h3)
  injection e with _ e _ _ _; exact absurd e (of_decide_eq_false h2)
 injection e with e _ _ _ _; exact absurd e (of_decide_eq_false h1)
theorem Qby (a b : Zb) (ha : Z15 a) : TotP (fun N => Q2f N a b) (fun v => v = true ↔ a = b) := by
 unfold Q2f;refine TotP.bindE (.of fun N => rfl) ?_;refine TotP.bindE (.of fun N => rfl) ?_;refine TotP.cond (fun h1 => ?_) (fun h1 => .ret ⟨fun h => (by cases h), fun e => ?_⟩)
 ·refine TotP.bind (Qkv a.Will b.Will ha.wprops) (fun v2 h2 => ?_);refine TotP.cond (fun e2 => ?_) (fun e2 => .ret ⟨fun h => (by cases h), fun e => ?_⟩)
  ·refine TotP.bind (Qn3 a.Codes b.Codes ha.codes) (fun v3 h3 => ?_);refine TotP.cond (fun e3 => ?_) (fun e3 => .ret ⟨fun h => (by cases h), fun e => ?_⟩)
   ·refine TotP.bind (Qfw a.Filters b.Filters ha.filters) (fun v4 h4 => ?_);refine TotP.cond (fun e4 => ?_) (fun e4 => .ret ⟨fun h => (by cases h), fun e => ?_⟩)
    ·refine TotP.bind (Qcb a.Props b.Props ha.props) (fun v5 h5 => .ret ?_);rw [h5];have e2 := h2.1 e2; have e3 := h3.1 e3; have e4 := h4.1 e4;obtain ⟨a1, a2, a3, a4, a5, a6, a7, a8, a9, a10, a11, a12, a13, a14, a15, a16, a17, a18, a19, a20, a21⟩ := a;obtain ⟨b1, b2, b3, b4, b5, b6, b7, b8, b9, b10, b11, b12, b13, b14, b15, b16, b17, b18, b19, b20, b21⟩ := b;dsimp only at e2 e3 e4 ⊢;simp at h1;simp [h1, e2, e3, e4]
    subst e; exact absurd (h4.2 rfl) (by rw [e4]; simp)
   subst e; exact absurd (h3.2 rfl) (by rw [e3]; simp)
  subst e; exact absurd (h2.2 rfl) (by rw [e2]; simp)
 subst e; simp at h1
end
end Go.Av
namespace Go.Av
noncomputable section
theorem TotP.any {R : Type} {f : Nat → Option R} {Q : R → Prop} (h : TotP f Q) : Any f := h.mono fun _ _ => trivial
theorem Zaj {k : Int} (h : 0 ≤ k ∧ k ≤ 18446744073709551615) : wrap .u64 k = k := IntWalk.u64_in k h
structure OkP (l : List Zz) : Prop where
 len : l.length ≤ 30
 txt : ∀ p ∈ l, p.Text.length ≤ maxLen
structure Qxz (p : Zb) : Prop where
 l : Z15 p
 props : OkP p.Props
 wprops : OkP p.Will.Props
 topic : p.Topic.length ≤ 2000
 payload : p.Payload.length ≤ 2000
 client : p.Client.length ≤ 2000
 user : p.User.length ≤ 2000
 pass : p.Pass.length ≤ 2000
 wtopic : p.Will.Topic.length ≤ 2000
 wpayload : p.Will.Payload.length ≤ 2000
 codes : p.Codes.length ≤ 30
 filters : p.Filters.length ≤ 30 ∧ ∀ f ∈ p.Filters, f.Topic.length ≤ 2000
theorem ml2 : 2000 ≤ maxLen := by unfold maxLen; decide
section
variable {p : Zb} (h : Qxz p)
include h
end
end
end Go.Av
namespace Go.Av
noncomputable section
end
end Go.Av
namespace Go.Av
noncomputable section
section
variable {p : Zb} (h : Qxz p)
include h
end
end
end Go.Av
namespace Go.Av
noncomputable section
section
variable {p : Zb} (h : Qxz p)
include h
end
end
end Go.Av
namespace Go.Av
noncomputable section
section
variable {p : Zb} (h : Qxz p)
include h
end
section
variable {p : Zb} (h : Qxz p)
include h
end
end
end Go.Av
namespace Go.Av
noncomputable section
structure Cd (B : Nat) (c : Q13) : Prop where
 d : c.do' = 1 ∨ c.do' = 2
 nm : c.m.Name.length ≤ 70000
 da : c.m.Data.length ≤ 70000
 ou : c.out.length ≤ B
theorem Cd.mono {B C : Nat} {c : Q13} (h : Cd B c) (hB : B ≤ C) : Cd C c := ⟨h.d, h.nm, h.da, Nn h.ou hB⟩
theorem Cd.zero {B : Nat} {c : Q13} (h : Cd B c) : Q3 .eql c.do' 0 = false := by
 have := h.d;rw [Q0z]; exact decide_eq_false (by omega)
section
variable {B : Nat} {c : Q13} (h : Cd B c) (hB : B ≤ 10000000)
include h hB
end
section
variable {B : Nat} {c : Q13} (h : Cd B c) (hB : B ≤ 1000000)
include h hB

end
section
variable {B : Nat} {c : Q13} (h : Cd B c) (hB : B ≤ 1000)
include h hB

end
structure OkM (m : Q78) : Prop where
 nm : m.Name.length ≤ 70000
 da : m.Data.length ≤ 70000
section
variable {m : Q78} (h : OkM m)
include h
end
section
variable {m : Q78} (h : OkM m)
include h
end
structure Z4o (d : Q26) : Prop where
 hops : d.Hops.length ≤ 30
 node : ∀ x ∈ d.Hops, x.Node.length ≤ 300
 msg : OkM d.Msg
section
variable {d : Q26} (h : Z4o d) (l : Z3)
include h
end
end
end Go.Av
namespace Go.Av
noncomputable section
theorem Qu7 (p : Zb) (h1 : p.Filters.length ≤ maxLen) (h2 : p.Props.length ≤ maxLen) (h3 : p.Will.Props.length ≤ maxLen) : TotP (fun N => Vo N p) (fun v => v = true → Qxz p) := by
 have hm := Qa8
 have h30 : 300 ≤ maxLen := by unfold maxLen; decide
 have tail : (p.Filters.length ≤ 30 → ∀ f ∈ p.Filters, f.Topic.length ≤ 2000) → TotP (fun N => cond (Q3 .leq (p.Topic.length : Int) 2000) (cond (Q3 .leq (p.Payload.length : Int) 2000) (cond (Q3 .leq (p.Client.length : Int) 2000) (cond (Q3 .leq (p.User.length : Int) 2000) (cond (Q3 .leq (p.Pass.length : Int) 2000)
  (cond (Q3 .leq (p.Will.Topic.length : Int) 2000) (cond (Q3 .leq (p.Will.Payload.length : Int) 2000) (cond (Q3 .leq ((Qd (cI .i64) p.Codes).length : Int) 30) (cond (Q3 .leq (p.Filters.length : Int) 30)
  ((Qz N p.Props).bind fun v26 => cond v26 ((Qz N p.Will.Props).bind fun v29 => some v29) (some false)) (some false)) (some false)) (some false)) (some false)) (some false)) (some false)) (some false)) (some false)) (some false)) (fun v => v = true → Qxz p) := by
  intro hf;rw [Q5]
  iterate 9 refine TotP.cond (fun _ => ?_) (fun _ => .ret (fun h => nomatch h))
  rename_i a1 a2 a3 a4 a5 a6 a7 a8 a9;rw [Q69] at a1 a2 a3 a4 a5 a6 a7 a8 a9;have a1 := of_decide_eq_true a1; have a2 := of_decide_eq_true a2; have a3 := of_decide_eq_true a3;have a4 := of_decide_eq_true a4; have a5 := of_decide_eq_true a5; have a6 := of_decide_eq_true a6;have a7 := of_decide_eq_true a7; have a8 := of_decide_eq_true a8; have a9 := of_decide_eq_true a9;refine TotP.bind (Qf4 _ h2) (fun v hv => TotP.cond (fun hv1 => ?_) (fun _ => .ret (fun h => nomatch h)));refine TotP.bind (Qf4 _ h3) (fun w hw => .ret (fun hw1 => ?_));have g1 := hv hv1; have g2 := hw hw1;exact ⟨⟨by omega, by omega, by omega, by omega⟩, ⟨g1.1, fun x hx => Nn (g1.2 x hx).1 h30⟩, ⟨g2.1, fun x hx => Nn (g2.2 x hx).1 h30⟩, by omega, by omega, by omega, by omega, by omega, by omega, by omega, by omega, by omega, hf (by omega)⟩
 refine Qgn (L := fun N n s => Zf N p n s) p.Filters.length (fun i => ∀ j (h : j < p.Filters.length), j < i → (p.Filters[j]).Topic.length ≤ 2000) (fun i hi hj => ?_) (fun hj => ?_) (fun j _ hj => by omega)
 ·show Stp _ _ _ (fun N n => cond (Q3 .lss (i : Int) ((Qd Zh.cells p.Filters).length : Int)) _ _);rw [Q5, Xb];refine Stp.cond (fun _ => ?_) (fun h => by have := of_decide_eq_false h; omega);refine Stp.cond (fun _ => ?_) (fun h => Stp.fin (tail (fun hc => ?_)))
  ·refine Stp.idx (Xz hi) ?_;rw [Q2c];refine Stp.cond (fun _ => Stp.ret (fun h => nomatch h)) (fun h1 => ?_);have h1 := of_decide_eq_false h1;rw [w64 _ (by omega)];refine Stp.go (L := fun N n s => Zf N p n s) _ ⟨by omega, fun j hj' hji => ?_⟩
   by_cases e : j = i
   ·subst e; omega
   exact hj j hj' (by omega)
  rw [Xb] at h; have := of_decide_eq_false h; omega
 show Stp _ _ _ (fun N n => cond (Q3 .lss (p.Filters.length : Int) ((Qd Zh.cells p.Filters).length : Int)) _ _);rw [Q5, Xb];refine Stp.cond (fun h => by have := of_decide_eq_true h; omega) (fun _ => Stp.fin (tail (fun _ f hf => ?_)));obtain ⟨j, hj', rfl⟩ := Ce hf;exact hj j hj' hj'
theorem Z1e (d : Q26) : TotP (fun N => Ws N d) (fun v => v = true → Z4o d) := by
 refine TotP.cond (fun _ => .ret (fun h => nomatch h)) (fun h0 => ?_);rw [Q5, Q2c] at h0;have h0 := of_decide_eq_false h0;refine TotP.bind (V := fun v => v = true → OkM d.Msg) ?_ (fun v hv => ?_)
 ·show TotP (fun N => cond (Q3 .leq (d.Msg.Name.length : Int) 70000) _ _) _;rw [Q69, Q69];refine TotP.cond (fun h1 => .ret (fun h2 => ?_)) (fun _ => .ret (fun h => nomatch h));have h1 := of_decide_eq_true h1; have h2 := of_decide_eq_true h2;exact ⟨by omega, by omega⟩
 refine TotP.cond (fun _ => .ret (fun h => nomatch h)) (fun hn => ?_);have hM := hv (by simpa using hn);refine Qgn (L := fun N n s => Z5 N d n s) d.Hops.length (fun i => ∀ j (h : j < d.Hops.length), j < i → (d.Hops[j]).Node.length ≤ 300) (fun i hi hj => ?_) (fun hj => ?_) (fun j _ hj => by omega)
 ·show Stp _ _ _ (fun N n => cond (Q3 .lss (i : Int) ((Qd Q48.cells d.Hops).length : Int)) _ _);rw [Q5, Xb];refine Stp.cond (fun _ => ?_) (fun h => by have := of_decide_eq_false h; omega);refine Stp.idx (Xz hi) ?_;rw [Q2c];refine Stp.cond (fun _ => Stp.ret (fun h => nomatch h)) (fun h1 => ?_);have h1 := of_decide_eq_false h1;rw [w64 _ (by omega)];refine Stp.go (L := fun N n s => Z5 N d n s) _ ⟨by omega, fun j hj' hji => ?_⟩
  by_cases e : j = i
  ·subst e; omega
  exact hj j hj' (by omega)
 show Stp _ _ _ (fun N n => cond (Q3 .lss (d.Hops.length : Int) ((Qd Q48.cells d.Hops).length : Int)) _ _);rw [Q5, Xb];refine Stp.cond (fun h => by have := of_decide_eq_true h; omega) (fun _ => Stp.ret (fun _ => ⟨by omega, fun x hx => ?_, hM⟩));obtain ⟨j, hj', rfl⟩ := Ce hx;exact hj j hj' hj'
theorem Qod (f : Q7) (hv : ∀ x ∈ f.Values, OkV x) : TotP (fun N => Z8 N f) (fun v => v = true → FB f) := by
 obtain ⟨r, _, N0, h⟩ := Qri f;refine ⟨r, fun hr => ?_, N0, h⟩;obtain ⟨b, h1, h2⟩ := Qmv (N := max N0 800000000) (by omega) f;rw [show Z8 (max N0 800000000) f = some r from h _ (by omega)] at h1;have := h2 ((Option.some.inj h1).symm.trans hr);exact Qvk this.1 this.2.2 hv
structure LE (e : Qj) : Prop where
 topic : e.Topic.length ≤ 2000
 payload : e.Payload.length ≤ 2000
 props : OkP e.Props
 pk : Qxz e.Packet
 dg : Z4o ⟨e.Hops, e.Msg⟩
 fb : FB e.Frame
theorem Qp4 (e : Qj) (h : OkE e) (hv : ∀ x ∈ e.Frame.Values, OkV x) : TotP (fun N => Wk N e) (fun v => v = true → LE e) := by
 have h30 : 300 ≤ maxLen := by unfold maxLen; decide
 refine TotP.cond (fun h1 => ?_) (fun _ => .ret (fun h => nomatch h));refine TotP.cond (fun h2 => ?_) (fun _ => .ret (fun h => nomatch h));rw [Q69] at h1 h2;have h1 := of_decide_eq_true h1; have h2 := of_decide_eq_true h2;refine TotP.bind (Qf4 _ h.props) (fun v hv1 => ?_);refine TotP.cond (fun h3 => ?_) (fun _ => .ret (fun h => nomatch h));refine TotP.bind (Qu7 _ h.filters h.pprops h.wprops) (fun u hu => ?_);refine TotP.cond (fun hu1 => ?_) (fun _ => .ret (fun h => nomatch h));refine TotP.bind (Z1e _) (fun w hw => ?_);refine TotP.cond (fun h4 => ?_) (fun _ => .ret (fun h => nomatch h));refine TotP.bind (Qod _ hv) (fun x hx => .ret (fun h5 => ?_));have g := hv1 h3;exact ⟨by omega, by omega, ⟨g.1, fun x hx => Nn (g.2 x hx).1 h30⟩, hu hu1, hw h4, hx h5⟩
end
end Go.Av
namespace Go.Av
noncomputable section
theorem Z39 (a b : Qj) : (((a.Msg.Type' : Int) == b.Msg.Type') && (((a.Msg.Flags.Dup : Bool) == b.Msg.Flags.Dup) && (((a.Msg.Flags.QoS : Int) == b.Msg.Flags.QoS) && (((a.Msg.Flags.Retain : Bool) == b.Msg.Flags.Retain) && (((a.Msg.Flags.Will : Bool) == b.Msg.Flags.Will) && (((a.Msg.Flags.Clean : Bool) == b.Msg.Flags.Clean) && (((a.Msg.Flags.Type' : Int) == b.Msg.Flags.Type') && (((a.Msg.Gateway : Int) == b.Msg.Gateway) && (((a.Msg.Radius : Int) == b.Msg.Radius) && (((a.Msg.Time : Int) == b.Msg.Time) && (((a.Msg.Timed : Bool) == b.Msg.Timed) && (((a.Msg.TopicID : Int) == b.Msg.TopicID) && (((a.Msg.MsgID : Int) == b.Msg.MsgID) && (((a.Msg.Code : Int) == b.Msg.Code) && (((a.Msg.Name : List UInt8) == b.Msg.Name) && (((a.Msg.Data : List UInt8) == b.Msg.Data) && true)))))))))))))))) = true ↔ a.Msg = b.Msg := by
 generalize a.Msg = m; generalize b.Msg = n;obtain ⟨a1, ⟨f1, f2, f3, f4, f5, f6⟩, a2, a3, a4, a5, a6, a7, a8, a9, a10⟩ := m;obtain ⟨b1, ⟨g1, g2, g3, g4, g5, g6⟩, b2, b3, b4, b5, b6, b7, b8, b9, b10⟩ := n;simp
 intros; simp only [and_assoc]
theorem Z54 {a b : Qj} (h0 : a.Proto = b.Proto) (h1 : a.Kind = b.Kind) (h2 : a.Topic = b.Topic) (h3 : a.Payload = b.Payload) (h4 : a.QoS = b.QoS) (h5 : a.Retain = b.Retain) (h6 : a.Dup = b.Dup) (h7 : a.ID = b.ID) (h8 : a.Props = b.Props) (h9 : a.Type' = b.Type') (h10 : a.Hops = b.Hops) (h11 : a.Channel = b.Channel) (h12 : a.Packet = b.Packet) (h13 : a.Msg = b.Msg) (h14 : a.Frame = b.Frame) : a = b := by
 cases a; cases b; simp only at h0 h1 h2 h3 h4 h5 h6 h7 h8 h9 h10 h11 h12 h13 h14;subst h0 h1 h2 h3 h4 h5 h6 h7 h8 h9 h10 h11 h12 h13 h14; rfl
structure Z3h (a : Qj) : Prop where
 props : a.Props.length ≤ maxLen
 hops : a.Hops.length ≤ maxLen
 pk : Z15 a.Packet
 fr : Q0.szs a.Frame.Values < 700000000
theorem Qin (a b : Qj) (h : Z3h a) : TotP (fun N => G0 N a b) (fun v => v = true ↔ a = b) := by
 unfold G0;simp only [Vj, Qnv];refine TotP.cond (fun g => .ret ⟨fun e => absurd e Lj, fun e => absurd g (by rw [e]; simp)⟩) (fun g => ?_)
 have e0 : a.Proto = b.Proto := by simpa using g
 clear g;refine TotP.cond (fun g => .ret ⟨fun e => absurd e Lj, fun e => absurd g (by rw [e]; simp)⟩) (fun g => ?_)
 have e1 : a.Kind = b.Kind := by simpa using g
 clear g;refine TotP.cond (fun g => .ret ⟨fun e => absurd e Lj, fun e => absurd g (by rw [e]; simp)⟩) (fun g => ?_)
 have e2 : a.Topic = b.Topic := by simpa using g
 clear g;refine TotP.cond (fun g => .ret ⟨fun e => absurd e Lj, fun e => absurd g (by rw [e]; simp)⟩) (fun g => ?_)
 have e3 : a.Payload = b.Payload := by simpa using g
 clear g;refine TotP.cond (fun g => .ret ⟨fun e => absurd e Lj, fun e => absurd g (by rw [e]; simp)⟩) (fun g => ?_)
 have e4 : a.QoS = b.QoS := by simpa using g
 clear g;refine TotP.cond (fun g => .ret ⟨fun e => absurd e Lj, fun e => absurd g (by rw [e]; simp)⟩) (fun g => ?_)
 have e5 : a.Retain = b.Retain := by simpa using g
 clear g;refine TotP.cond (fun g => .ret ⟨fun e => absurd e Lj, fun e => absurd g (by rw [e]; simp)⟩) (fun g => ?_)
 have e6 : a.Dup = b.Dup := by simpa using g
 clear g;refine TotP.cond (fun g => .ret ⟨fun e => absurd e Lj, fun e => absurd g (by rw [e]; simp)⟩) (fun g => ?_)
 have e7 : a.ID = b.ID := by simpa using g
 clear g;refine TotP.cond (fun g => .ret ⟨fun e => absurd e Lj, fun e => absurd g (by rw [e]; simp)⟩) (fun g => ?_)
 have e8 : a.Type' = b.Type' := by simpa using g
 clear g;refine TotP.cond (fun g => .ret ⟨fun e => absurd e Lj, fun e => absurd g (by rw [e]; simp)⟩) (fun g => ?_)
 have e9 : a.Channel = b.Channel := by simpa using g
 clear g;refine TotP.bind (Qjz _ _ h.props) (fun v1 g1 => ?_);refine TotP.cond (fun c1 => ?_) (fun c1 => .ret ⟨fun e => absurd e Lj, fun e => absurd (g1.2 (by rw [e])) (by rw [c1]; simp)⟩);refine TotP.bind (Qm4 _ _ h.hops) (fun v2 g2 => ?_);refine TotP.cond (fun c2 => ?_) (fun c2 => .ret ⟨fun e => absurd e Lj, fun e => absurd (g2.2 (by rw [e])) (by rw [c2]; simp)⟩);refine TotP.bind (Qby _ _ h.pk) (fun v3 g3 => ?_);refine TotP.cond (fun c3 => ?_) (fun c3 => .ret ⟨fun e => absurd e Lj, fun e => absurd (g3.2 (by rw [e])) (by rw [c3]; simp)⟩);refine TotP.cond (fun c4 => ?_) (fun c4 => .ret ⟨fun e => absurd e Lj, fun e => absurd ((Z39 a b).2 (by rw [e])) (by rw [c4]; simp)⟩);refine TotP.bind (f := fun N => Yf N a.Frame b.Frame) (V := fun v => v = decide (a.Frame = b.Frame)) ⟨_, rfl, 800000000, fun N hN => Q7l hN _ _ h.fr⟩ (fun v g => .ret ?_);have q := (Z39 a b).1 c4;rw [g, decide_eq_true_eq];exact ⟨fun e => Z54 e0 e1 e2 e3 e4 e5 e6 e7 (g1.1 c1) e8 (g2.1 c2) e9 (g3.1 c3) q e, fun e => by rw [e]⟩
structure PubT (e : Qj) (c t b : Bool) : Prop where
 known : e.Proto = 1 ∨ e.Proto = 2 ∨ e.Proto = 3 ∨ e.Proto = 4
 kind : e.Kind = 1
 qos : (0 ≤ e.QoS ∧ e.QoS ≤ 2) ∨ (e.Proto = 3 ∧ e.QoS = -1)
 id : 0 ≤ e.ID ∧ e.ID ≤ 65535
 cid : c = decide (e.ID ≠ 0)
 dup : e.Dup = true → c = true ∨ e.Proto = 3
 props : 0 < e.Props.length → e.Proto = 2
 ty : e.Proto = 3 → t = true
 ty2 : e.Proto ≠ 3 → e.Type' = 0 ∧ e.Hops.length = 0
 ch : 0 ≤ e.Channel ∧ e.Channel ≤ 65535
 ch4 : e.Channel ≠ 0 → e.Proto = 4
 bare : b = true
section
end
end
end Go.Av
namespace Go.Av
noncomputable section
theorem Q79 (a b : List Zz) (ha : a.length ≤ maxLen) : TotP (fun N => Xy N a b) (fun v => v = true ↔ a = b) := by
 unfold Xy;rw [Q5, Q5, Vj];refine TotP.cond (fun h => .ret ⟨fun h => (by cases h), fun e => ?_⟩) (fun h => ?_)
 ·have := of_decide_eq_true h; subst e; exact absurd rfl this
 have h := of_decide_eq_false h
 have hab : a.length = b.length := by omega
 refine Qag (L := fun N n i => Xt N a b n i) (eq := fun x y => ((x.ID : Int) == y.ID) && (((x.N' : Int) == y.N') && (((x.Text : List UInt8) == y.Text) && (((x.Value : List UInt8) == y.Value) && true)))) (fun _ _ => Z0g) hab ha (fun N n i h h' => ?_) (fun N n => ?_)
 ·show cond (Q3 .lss (i : Int) ((Qd Zz.cells a).length : Int)) ((idx a (i : Int)).bind _) _ = _;rw [Q5, Xb, decide_eq_true (by omega), Xz h, Xz h'];rfl
 show cond (Q3 .lss (a.length : Int) ((Qd Zz.cells a).length : Int)) _ _ = _;rw [Q5, Xb, decide_eq_false (by omega)]; rfl
theorem Qnd (a b : List Q48) (ha : a.length ≤ maxLen) : TotP (fun N => Ue N a b) (fun v => v = true ↔ a = b) := by
 unfold Ue;rw [Q5, Q5, Vj];refine TotP.cond (fun h => .ret ⟨fun h => (by cases h), fun e => ?_⟩) (fun h => ?_)
 ·have := of_decide_eq_true h; subst e; exact absurd rfl this
 have h := of_decide_eq_false h
 have hab : a.length = b.length := by omega
 refine Qag (L := fun N n i => Xp N a b n i) (eq := fun x y => ((x.Radius : Int) == y.Radius) && (((x.Node : List UInt8) == y.Node) && true)) (fun _ _ => Zbn) hab ha (fun N n i h h' => ?_) (fun N n => ?_)
 ·show cond (Q3 .lss (i : Int) ((Qd Q48.cells a).length : Int)) ((idx a (i : Int)).bind _) _ = _;rw [Q5, Xb, decide_eq_true (by omega), Xz h, Xz h'];rfl
 show cond (Q3 .lss (a.length : Int) ((Qd Q48.cells a).length : Int)) _ _ = _;rw [Q5, Xb, decide_eq_false (by omega)]; rfl
theorem Qfv (a b : List Zh) (ha : a.length ≤ maxLen) : TotP (fun N => Wv N a b) (fun v => v = true ↔ a = b) := by
 unfold Wv;rw [Q5, Q5, Vj];refine TotP.cond (fun h => .ret ⟨fun h => (by cases h), fun e => ?_⟩) (fun h => ?_)
 ·have := of_decide_eq_true h; subst e; exact absurd rfl this
 have h := of_decide_eq_false h
 have hab : a.length = b.length := by omega
 refine Qag (L := fun N n i => Yp N a b n i) (eq := fun x y => ((x.Topic : List UInt8) == y.Topic) && (((x.QoS : Int) == y.QoS) && (((x.NoLocal : Bool) == y.NoLocal) && (((x.AsPublished : Bool) == y.AsPublished) && (((x.Handling : Int) == y.Handling) && true))))) (fun _ _ => Qs8) hab ha (fun N n i h h' => ?_) (fun N n => ?_)
 ·show cond (Q3 .lss (i : Int) ((Qd Zh.cells a).length : Int)) ((idx a (i : Int)).bind _) _ = _;rw [Q5, Xb, decide_eq_true (by omega), Xz h, Xz h'];rfl
 show cond (Q3 .lss (a.length : Int) ((Qd Zh.cells a).length : Int)) _ _ = _;rw [Q5, Xb, decide_eq_false (by omega)]; rfl
theorem Qmx (a b : List Int) (ha : a.length ≤ maxLen) : TotP (fun N => Un N a b) (fun v => v = true ↔ a = b) := by
 unfold Un;rw [Q5, Q5, Vj];refine TotP.cond (fun h => .ret ⟨fun h => (by cases h), fun e => ?_⟩) (fun h => ?_)
 ·have := of_decide_eq_true h; subst e; exact absurd rfl this
 have h := of_decide_eq_false h
 have hab : a.length = b.length := by omega
 refine Qag (L := fun N n i => Xk N a b n i) (eq := fun x y => Q3 .eql x y) (fun x y => by rw [Q0z]; exact decide_eq_true_iff) hab ha (fun N n i h h' => ?_) (fun N n => ?_)
 ·show cond (Q3 .lss (i : Int) ((Qd (cI .i64) a).length : Int)) ((idx a (i : Int)).bind _) _ = _;rw [Q5, Xb, decide_eq_true (by omega), Xz h, Xz h'];simp only [Lb, cond_true, Vj, Q0z, decide_not]
 show cond (Q3 .lss (a.length : Int) ((Qd (cI .i64) a).length : Int)) _ _ = _;rw [Q5, Xb, decide_eq_false (by omega)]; rfl
theorem Qkx (a b : Zb) (h : Z15 a) : TotP (fun N => Uj N a b) (fun v => v = true ↔ a = b) := by
 unfold Uj;simp only [Vj, Qnv];refine TotP.cond (fun g => .ret ⟨fun e => absurd e Lj, fun e => absurd g (by rw [e]; simp)⟩) (fun g => ?_)
 have e0 : a.Will.Topic = b.Will.Topic := by simpa using g
 clear g;refine TotP.cond (fun g => .ret ⟨fun e => absurd e Lj, fun e => absurd g (by rw [e]; simp)⟩) (fun g => ?_)
 have e1 : a.Will.Payload = b.Will.Payload := by simpa using g
 clear g;refine TotP.cond (fun g => .ret ⟨fun e => absurd e Lj, fun e => absurd g (by rw [e]; simp)⟩) (fun g => ?_)
 have e2 : a.Will.QoS = b.Will.QoS := by simpa using g
 clear g;refine TotP.cond (fun g => .ret ⟨fun e => absurd e Lj, fun e => absurd g (by rw [e]; simp)⟩) (fun g => ?_)
 have e3 : a.Will.Retain = b.Will.Retain := by simpa using g
 clear g;refine TotP.bind (Q79 _ _ h.wprops) (fun v hv => ?_);refine TotP.cond (fun g => .ret ⟨fun e => absurd e Lj, fun e => absurd (hv.2 (by rw [e])) (by simpa using g)⟩) (fun g => ?_);have e4 : a.Will.Props = b.Will.Props := hv.1 (by simpa using g);clear g hv;refine TotP.cond (fun g => .ret ⟨fun e => absurd e Lj, fun e => absurd g (by rw [e]; simp)⟩) (fun g => ?_)
 have e5 : a.Kind = b.Kind := by simpa using g
 clear g;refine TotP.cond (fun g => .ret ⟨fun e => absurd e Lj, fun e => absurd g (by rw [e]; simp)⟩) (fun g => ?_)
 have e6 : a.Dup = b.Dup := by simpa using g
 clear g;refine TotP.cond (fun g => .ret ⟨fun e => absurd e Lj, fun e => absurd g (by rw [e]; simp)⟩) (fun g => ?_)
 have e7 : a.Retain = b.Retain := by simpa using g
 clear g;refine TotP.cond (fun g => .ret ⟨fun e => absurd e Lj, fun e => absurd g (by rw [e]; simp)⟩) (fun g => ?_)
 have e8 : a.QoS = b.QoS := by simpa using g
 clear g;refine TotP.cond (fun g => .ret ⟨fun e => absurd e Lj, fun e => absurd g (by rw [e]; simp)⟩) (fun g => ?_)
 have e9 : a.ID = b.ID := by simpa using g
 clear g;refine TotP.cond (fun g => .ret ⟨fun e => absurd e Lj, fun e => absurd g (by rw [e]; simp)⟩) (fun g => ?_)
 have e10 : a.Topic = b.Topic := by simpa using g
 clear g;refine TotP.cond (fun g => .ret ⟨fun e => absurd e Lj, fun e => absurd g (by rw [e]; simp)⟩) (fun g => ?_)
 have e11 : a.Payload = b.Payload := by simpa using g
 clear g;refine TotP.cond (fun g => .ret ⟨fun e => absurd e Lj, fun e => absurd g (by rw [e]; simp)⟩) (fun g => ?_)
 have e12 : a.Clean = b.Clean := by simpa using g
 clear g;refine TotP.cond (fun g => .ret ⟨fun e => absurd e Lj, fun e => absurd g (by rw [e]; simp)⟩) (fun g => ?_)
 have e13 : a.KeepAlive = b.KeepAlive := by simpa using g
 clear g;refine TotP.cond (fun g => .ret ⟨fun e => absurd e Lj, fun e => absurd g (by rw [e]; simp)⟩) (fun g => ?_)
 have e14 : a.Client = b.Client := by simpa using g
 clear g;refine TotP.cond (fun g => .ret ⟨fun e => absurd e Lj, fun e => absurd g (by rw [e]; simp)⟩) (fun g => ?_)
 have e15 : a.HasUser = b.HasUser := by simpa using g
 clear g;refine TotP.cond (fun g => .ret ⟨fun e => absurd e Lj, fun e => absurd g (by rw [e]; simp)⟩) (fun g => ?_)
 have e16 : a.User = b.User := by simpa using g
 clear g;refine TotP.cond (fun g => .ret ⟨fun e => absurd e Lj, fun e => absurd g (by rw [e]; simp)⟩) (fun g => ?_)
 have e17 : a.HasPass = b.HasPass := by simpa using g
 clear g;refine TotP.cond (fun g => .ret ⟨fun e => absurd e Lj, fun e => absurd g (by rw [e]; simp)⟩) (fun g => ?_)
 have e18 : a.Pass = b.Pass := by simpa using g
 clear g;refine TotP.cond (fun g => .ret ⟨fun e => absurd e Lj, fun e => absurd g (by rw [e]; simp)⟩) (fun g => ?_)
 have e19 : a.HasWill = b.HasWill := by simpa using g
 clear g;refine TotP.cond (fun g => .ret ⟨fun e => absurd e Lj, fun e => absurd g (by rw [e]; simp)⟩) (fun g => ?_)
 have e20 : a.Session = b.Session := by simpa using g
 clear g;refine TotP.cond (fun g => .ret ⟨fun e => absurd e Lj, fun e => absurd g (by rw [e]; simp)⟩) (fun g => ?_)
 have e21 : a.Code = b.Code := by simpa using g
 clear g;refine TotP.bind (Qmx _ _ h.codes) (fun v hv => ?_);refine TotP.cond (fun g => ?_) (fun g => .ret ⟨fun e => absurd e Lj, fun e => absurd (hv.2 (by rw [e])) (by rw [g]; decide)⟩);have e22 : a.Codes = b.Codes := hv.1 g;clear g hv;refine TotP.bind (Qfv _ _ h.filters) (fun v hv => ?_);refine TotP.cond (fun g => ?_) (fun g => .ret ⟨fun e => absurd e Lj, fun e => absurd (hv.2 (by rw [e])) (by rw [g]; decide)⟩);have e23 : a.Filters = b.Filters := hv.1 g;clear g hv;refine TotP.bind (Q79 _ _ h.props) (fun v hv => .ret ⟨fun g => ?_, fun e => hv.2 (by rw [e])⟩);have el : a.Props = b.Props := hv.1 g;obtain ⟨a0, a1, a2, a3, a4, a5, a6, a7, a8, a9, a10, a11, a12, a13, a14, ⟨w0, w1, w2, w3, w4⟩, a16, a17, a18, a19, a20⟩ := a;obtain ⟨b0, b1, b2, b3, b4, b5, b6, b7, b8, b9, b10, b11, b12, b13, b14, ⟨x0, x1, x2, x3, x4⟩, b16, b17, b18, b19, b20⟩ := b
 simp_all
theorem Qzj (x y : Q78) : (((x.Type' : Int) == y.Type') && (((x.Flags.Dup : Bool) == y.Flags.Dup) && (((x.Flags.QoS : Int) == y.Flags.QoS) && (((x.Flags.Retain : Bool) == y.Flags.Retain) && (((x.Flags.Will : Bool) == y.Flags.Will) && (((x.Flags.Clean : Bool) == y.Flags.Clean) && (((x.Flags.Type' : Int) == y.Flags.Type') && (((x.Gateway : Int) == y.Gateway) && (((x.Radius : Int) == y.Radius) && (((x.Time : Int) == y.Time) && (((x.Timed : Bool) == y.Timed) && (((x.TopicID : Int) == y.TopicID) && (((x.MsgID : Int) == y.MsgID) && (((x.Code : Int) == y.Code) && (((x.Name : List UInt8) == y.Name) && (((x.Data : List UInt8) == y.Data) && true)))))))))))))))) = true ↔ x = y := by
 obtain ⟨a, ⟨b, c, d, e, f, g⟩, h, i, j, k, l, m, n, o, p⟩ := x;obtain ⟨a', ⟨b', c', d', e', f', g'⟩, h', i', j', k', l', m', n', o', p'⟩ := y;simp [and_assoc]
theorem Q6a (a b : Qj) (h : Z3h a) : TotP (fun N => Zu N a b) (fun v => v = true ↔ a = b) := by
 unfold Zu;simp only [Q0z, Qij];refine TotP.cond (fun g => ?_) (fun g => .ret ⟨fun e => absurd e Lj, fun e => absurd g (by rw [e]; simp)⟩)
 have e24 : a.Proto = b.Proto := by simpa using g
 clear g;refine TotP.cond (fun g => ?_) (fun g => .ret ⟨fun e => absurd e Lj, fun e => absurd g (by rw [e]; simp)⟩)
 have e25 : a.Kind = b.Kind := by simpa using g
 clear g;refine TotP.cond (fun g => ?_) (fun g => .ret ⟨fun e => absurd e Lj, fun e => absurd g (by rw [e]; simp)⟩)
 have e26 : a.Topic = b.Topic := by simpa using g
 clear g;refine TotP.cond (fun g => ?_) (fun g => .ret ⟨fun e => absurd e Lj, fun e => absurd g (by rw [e]; simp)⟩)
 have e27 : a.Payload = b.Payload := by simpa using g
 clear g;refine TotP.cond (fun g => ?_) (fun g => .ret ⟨fun e => absurd e Lj, fun e => absurd g (by rw [e]; simp)⟩)
 have e28 : a.QoS = b.QoS := by simpa using g
 clear g;refine TotP.cond (fun g => ?_) (fun g => .ret ⟨fun e => absurd e Lj, fun e => absurd g (by rw [e]; simp)⟩)
 have e29 : a.Retain = b.Retain := by simpa using g
 clear g;refine TotP.cond (fun g => ?_) (fun g => .ret ⟨fun e => absurd e Lj, fun e => absurd g (by rw [e]; simp)⟩)
 have e30 : a.Dup = b.Dup := by simpa using g
 clear g;refine TotP.cond (fun g => ?_) (fun g => .ret ⟨fun e => absurd e Lj, fun e => absurd g (by rw [e]; simp)⟩)
 have e31 : a.ID = b.ID := by simpa using g
 clear g;refine TotP.bind (Q79 _ _ h.props) (fun v hv => ?_);refine TotP.cond (fun g => ?_) (fun g => .ret ⟨fun e => absurd e Lj, fun e => absurd (hv.2 (by rw [e])) (by rw [g]; decide)⟩);have e32 : a.Props = b.Props := hv.1 g;clear g hv;refine TotP.cond (fun g => ?_) (fun g => .ret ⟨fun e => absurd e Lj, fun e => absurd g (by rw [e]; simp)⟩)
 have e33 : a.Type' = b.Type' := by simpa using g
 clear g;refine TotP.bind (Qnd _ _ h.hops) (fun v hv => ?_);refine TotP.cond (fun g => ?_) (fun g => .ret ⟨fun e => absurd e Lj, fun e => absurd (hv.2 (by rw [e])) (by rw [g]; decide)⟩);have e34 : a.Hops = b.Hops := hv.1 g;clear g hv;refine TotP.cond (fun g => ?_) (fun g => .ret ⟨fun e => absurd e Lj, fun e => absurd g (by rw [e]; simp)⟩)
 have e35 : a.Channel = b.Channel := by simpa using g
 clear g;refine TotP.bind (Qkx _ _ h.pk) (fun v hv => ?_);refine TotP.cond (fun g => ?_) (fun g => .ret ⟨fun e => absurd e Lj, fun e => absurd (hv.2 (by rw [e])) (by rw [g]; decide)⟩);have e36 : a.Packet = b.Packet := hv.1 g;clear g hv;refine TotP.cond (fun g => ?_) (fun g => .ret ⟨fun e => absurd e Lj, fun e => absurd ((Qzj a.Msg b.Msg).2 (by rw [e])) (by rw [g]; decide)⟩);have e37 : a.Msg = b.Msg := (Qzj _ _).1 g;clear g;refine TotP.bind (V := fun v => v = true ↔ a.Frame = b.Frame) ⟨decide (a.Frame = b.Frame), decide_eq_true_iff, 800000000, fun N hN => Qkh hN _ _ h.fr⟩ (fun v hv => .ret ⟨fun g => ?_, fun e => hv.2 (by rw [e])⟩);have el : a.Frame = b.Frame := hv.1 g;cases a; cases b
 simp_all
end
end Go.Av
namespace Go.Av
noncomputable section
open Go.Proofs
set_option maxRecDepth 100000
theorem Zky {s : List UInt8} (h : 8 ≤ s.length) : ∃ a0 a1 a2 a3 a4 a5 a6 a7 t, s = a0 :: a1 :: a2 :: a3 :: a4 :: a5 :: a6 :: a7 :: t := by
 match s, h with
 | a0 :: a1 :: a2 :: a3 :: a4 :: a5 :: a6 :: a7 :: t, _ => exact ⟨a0, a1, a2, a3, a4, a5, a6, a7, t, rfl⟩
end
end Go.Av
namespace Go.Av
noncomputable section
open Go.Proofs
set_option maxRecDepth 100000
theorem eqI (x : Int) : Q3 .eql x x = true := by simp [Q3]
end
end Go.Av
namespace Go.Av
noncomputable section
open Go.Proofs
set_option maxRecDepth 100000
end
end Go.Av
namespace Go.Av
noncomputable section
open Go.Proofs
set_option maxRecDepth 100000
theorem Qmd (l : List Q0) : (l.map Q0.nrm).map Q0.nrm = l.map Q0.nrm := by
 rw [Cj];apply Bd;intro x _;exact Qsr x
end
end Go.Av
namespace Go.Av
noncomputable section
def zP : Zb := ⟨0, false, false, 0, 0, [], [], false, 0, [], false, [], false, [], false, (⟨[], [], 0, false, []⟩ : Q0q), false, 0, [], [], []⟩
def zM : Q78 := ⟨0, (⟨false, 0, false, false, false, 0⟩ : Jt), 0, 0, 0, false, 0, 0, 0, [], []⟩
def zF : Q7 := ⟨0, 0, [], []⟩
def zE : Qj := ⟨0, 0, [], [], 0, false, false, 0, [], 0, [], 0, zP, zM, zF⟩
structure E4 (e : Qj) : Prop where
 eq : e = ⟨4, 1, e.Topic, e.Payload, e.QoS, e.Retain, e.Dup, e.ID, [], 0, [], e.Channel, zP, zM, zF⟩
 qos : 0 ≤ e.QoS ∧ e.QoS ≤ 2
 id : 0 ≤ e.ID ∧ e.ID ≤ 65535
 ch : 0 ≤ e.Channel ∧ e.Channel ≤ 65535
theorem Qiv : Z15 zP := ⟨Mv _, Mv _, Mv _, Mv _⟩
theorem Z4m {e : Qj} (hpk : Z15 e.Packet) (hs : Q0.szs e.Frame.Values < 700000000) : TotP (fun N => Q2t N e) (fun v => v = true → e.Packet = zP ∧ e.Msg = zM ∧ e.Frame = zF) := by
 unfold Q2t;refine TotP.bind (Qby e.Packet zP hpk) (fun v hv => ?_);refine TotP.cond (fun g => ?_) (fun _ => .ret (fun h => nomatch h));refine TotP.cond (fun g2 => ?_) (fun _ => .ret (fun h => nomatch h));refine TotP.bind (V := fun v => v = true ↔ e.Frame = zF) ⟨decide (e.Frame = zF), decide_eq_true_iff, 800000000, fun N hN => Q7l hN _ _ hs⟩ (fun w hw => .ret fun h => ⟨hv.1 g, (Qzj e.Msg zM).1 g2, hw.1 h⟩)
theorem Z4s (M : Nat) : Q4m (M + 50) 3 [] = some 0 := by kernel_rfl
theorem Z4c {e : Qj} (h1 : e.Proto = 4) (h2 : e.Kind = 1) (h3 : e.Props = []) (h4 : e.Type' = 0) (h5 : e.Hops = []) (h6 : e.Packet = zP) (h7 : e.Msg = zM) (h8 : e.Frame = zF) :
  e = ⟨4, 1, e.Topic, e.Payload, e.QoS, e.Retain, e.Dup, e.ID, [], 0, [], e.Channel, zP, zM, zF⟩ := by
 cases e
 simp_all
theorem ne2 {P : Prop} : (2 : Int) = 0 → P := fun h => absurd h (by decide)
theorem Zf9 {e : Qj} (h4 : e.Proto = 4) (ht : e.Topic.length ≤ maxLen) (hpk : Z15 e.Packet) (hs : Q0.szs e.Frame.Values < 700000000) : TotP (fun N => Y9 N e) (fun r => r = 0 → E4 e) := by
 have j4 : e.Props = [] → TotP (fun N => U8 N e) (fun r => r = 0 → e.Packet = zP ∧ e.Msg = zM ∧ e.Frame = zF) := fun hp => by
  unfold U8;refine TotP.bind (Z4m hpk hs) (fun b hb => ?_);refine TotP.cond (fun _ => .ret ne2) (fun g => ?_);rw [hp];refine TotP.bindE (v := 0) ⟨50, fun N hN => by obtain ⟨M, rfl⟩ : ∃ M, N = M + 50 := ⟨N - 50, by omega⟩; exact Z4s M⟩ ?_;exact TotP.cond (fun h => absurd h (by decide)) (fun _ => .ret fun _ => hb (by simpa using g))
 have j3 : e.Props = [] → TotP (fun N => U6 N e) (fun r => r = 0 → e.Type' = 0 ∧ e.Hops = [] ∧ (0 ≤ e.Channel ∧ e.Channel ≤ 65535) ∧ e.Packet = zP ∧ e.Msg = zM ∧ e.Frame = zF) := fun hp => by
  unfold U6;simp only [h4, Q0z, Vj, Q2c, Qhq, Q5, Lb];refine TotP.cond (fun h => absurd (of_decide_eq_true h) (by decide)) (fun _ => ?_);refine TotP.cond (fun _ => .ret ne2) (fun g1 => ?_);refine TotP.cond (fun _ => .ret ne2) (fun g2 => ?_);refine TotP.cond (fun _ => .ret ne2) (fun g3 => ?_)
  have g1 : e.Type' = 0 := by have := of_decide_eq_false g1; omega
  have g2 : e.Hops = [] := by
   have := of_decide_eq_false g2
   cases hh : e.Hops with
   | nil => rfl
   | cons a b => rw [hh] at this; simp at this
  have g3 : 0 ≤ e.Channel ∧ e.Channel ≤ 65535 := by simpa using g3
  refine TotP.cond (fun _ => ?_) (fun _ => (j4 hp).mono fun r hr h => ⟨g1, g2, g3, hr h⟩);exact TotP.cond (fun h => absurd (of_decide_eq_true h) (by decide)) (fun _ => (j4 hp).mono fun r hr h => ⟨g1, g2, g3, hr h⟩)
 have j2 : TotP (fun N => W3 N e) (fun r => r = 0 → e.Props = [] ∧ e.Type' = 0 ∧ e.Hops = [] ∧ (0 ≤ e.Channel ∧ e.Channel ≤ 65535) ∧ e.Packet = zP ∧ e.Msg = zM ∧ e.Frame = zF) := by
  unfold W3;simp only [h4, Vj, Q2c, Q5];refine TotP.cond (fun _ => TotP.cond (fun _ => .ret ne2) (fun h => absurd (of_decide_eq_false h) (by decide))) (fun g => ?_)
  have hp : e.Props = [] := by
   have := of_decide_eq_false g
   cases hh : e.Props with
   | nil => rfl
   | cons a b => rw [hh] at this; simp at this
  exact (j3 hp).mono fun r hr h => ⟨hp, hr h⟩
 have j1 : ∀ c, TotP (fun N => U7 N e c) (fun r => r = 0 → (0 ≤ e.ID ∧ e.ID ≤ 65535) ∧ e.Props = [] ∧ e.Type' = 0 ∧ e.Hops = [] ∧ (0 ≤ e.Channel ∧ e.Channel ≤ 65535) ∧ e.Packet = zP ∧ e.Msg = zM ∧ e.Frame = zF) := fun c => by
  unfold U7;simp only [Qhq, Lb];refine TotP.cond (fun _ => .ret ne2) (fun g => ?_)
  have g : 0 ≤ e.ID ∧ e.ID ≤ 65535 := by simpa using g
  have k : TotP (fun N => W3 N e) (fun r => r = 0 → (0 ≤ e.ID ∧ e.ID ≤ 65535) ∧ e.Props = [] ∧ e.Type' = 0 ∧ e.Hops = [] ∧ (0 ≤ e.Channel ∧ e.Channel ≤ 65535) ∧ e.Packet = zP ∧ e.Msg = zM ∧ e.Frame = zF) := j2.mono fun r hr h => ⟨g, hr h⟩;refine TotP.cond (fun _ => .ret ne2) (fun _ => ?_);refine TotP.cond (fun _ => TotP.cond (fun _ => TotP.cond (fun _ => .ret ne2) (fun _ => k)) (fun _ => k)) (fun _ => k)
 have j0 : ∀ c, TotP (fun N => Vz N e c) (fun r => r = 0 → E4 e) := fun c => by
  unfold Vz;simp only [Qvj, Qhq, Lb, h4, Q0z, Vj];refine TotP.cond (fun _ => .ret ne2) (fun _ => ?_);refine TotP.cond (fun _ => .ret ne2) (fun g1 => ?_);refine TotP.bindE (Qws _ ht) ?_;refine TotP.cond (fun _ => .ret (fun h => absurd h (by decide))) (fun _ => ?_)
  have g1 : e.Kind = 1 := by have := of_decide_eq_false g1; omega
  refine TotP.cond (fun _ => TotP.cond (fun h => absurd (of_decide_eq_true h) (by decide)) (fun _ => .ret ne2)) (fun g2 => ?_)
  have g2 : 0 ≤ e.QoS ∧ e.QoS ≤ 2 := by simpa using g2
  refine (j1 c).mono fun r hr h => ?_;obtain ⟨q1, q2, q3, q4, q5, q6, q7, q8⟩ := hr h;exact ⟨Z4c h4 g1 q2 q3 q4 q6 q7 q8, g2, q1, q5⟩
 unfold Y9;exact TotP.cond (fun _ => j0 _) (fun _ => j0 _)
def vn (k n : Int) : Q0 := ⟨k, n, [], []⟩
def vt (k : Int) (s : List UInt8) : Q0 := ⟨k, 0, s, []⟩
def vf (b : Bool) : Q0 := vn 2 (if b then 1 else 0)
def vl (k : Int) (l : List Q0) : Q0 := ⟨k, 0, [], l⟩
def vs (n : Int) (v : Q0) : Q0 := vl 25 [vn 6 n, v]
def frE (e : Qj) : Q7 := ⟨0, e.Channel, [], [vs 20 (vl 22 [vn 5 0, vn 5 e.ID, vt 19 (Q6w e.ID.toNat 2), vn 5 0, vf (decide (e.QoS = 0))]),
 vs 114 (vl 23 [vt 21 [120, 45, 113, 111, 115], vn 3 e.QoS, vt 21 [120, 45, 114, 101, 116, 97, 105, 110], vf e.Retain, vt 21 [120, 45, 100, 117, 112], vf e.Dup]),
 vs 115 (vl 22 [vn 1 0, vn 1 0, vt 20 e.Topic]), vs 117 (vt 19 e.Payload)]⟩
theorem Z0q (N : Nat) (b : Bool) : Q17 N b = some (vf b) := by cases b <;> rfl
theorem Qos (e : Qj) (h : 0 ≤ e.ID ∧ e.ID ≤ 65535) (hq : 0 ≤ e.QoS ∧ e.QoS ≤ 2) : Tot (fun N => Wr N e) (frE e) := by
 refine ⟨100, fun N hN => ?_⟩;obtain ⟨k, hk⟩ : ∃ k : Nat, e.ID = (k : Int) := ⟨e.ID.toNat, by omega⟩;have e1 : wrap .u64 e.ID = e.ID := Zaj (by omega);have e2 : wrap .u64 e.QoS = e.QoS := Zaj (by omega)
 have e3 : Q2g N e.ID 2 = some (Q6w e.ID.toNat 2) := by
  rw [hk]; exact Z0i N k 2 (by omega) (by decide) (by omega)
 show Wr N e = _;unfold Wr;simp only [Ub, Jf, Q0u, Uw, Z0q, e1, e2, e3, Lb, Q0z];rfl
theorem Qtr (e : Qj) : Q0.szs (frE e).Values < 700000000 := by
 unfold frE vs vl vn vt vf vn;simp only [Q0.szs, Q0.sz]
 decide
theorem Qy8 {a b : Bool} (h : vf a = vf b) : a = b := by cases a <;> cases b <;> first | rfl | (simp [vf, vn] at h)
theorem Qzk {e o : Qj} (he : E4 e) (ho : E4 o) (h : frE e = frE o) : e = o := by
 unfold frE at h;simp only [Q7.mk.injEq, Bb, vs, vl, Q0.mk.injEq, and_true, true_and] at h;obtain ⟨c, ⟨⟨i1, _, _⟩, ⟨q, r, d⟩, t, p⟩⟩ := h
 have i1 : e.ID = o.ID := by simpa [vn] using i1
 have q : e.QoS = o.QoS := by simpa [vn] using q
 have t : e.Topic = o.Topic := by simpa [vt] using t
 have p : e.Payload = o.Payload := by simpa [vt] using p
 rw [he.eq, ho.eq, c, i1, q, Qy8 r, Qy8 d, t, p]
end
end Go.Av
namespace Go.Av
noncomputable section
section
variable {T : Type} {l : List T}
theorem Z4f (h : 1 < l.length) : idx l 1 = some l[1] := Xz h
theorem Zj8 (h : 2 < l.length) : idx l 2 = some l[2] := Xz h
theorem Zk7 (h : 3 < l.length) : idx l 3 = some l[3] := Xz h
theorem Zki (h : 5 < l.length) : idx l 5 = some l[5] := Xz h
theorem Ziw (h : l.length = 4) : ∃ a b c d, l = [a, b, c, d] := by
 match l, h with
 | [a, b, c, d], _ => exact ⟨a, b, c, d, rfl⟩
end
def MsgR (f : Q7) (r : Qj × Bool) : Prop := r.2 = true → E4 r.1 ∧ Tot (fun N => Y9 N r.1) 0 ∧ frE r.1 = f
theorem MsgR.no {f : Q7} {e : Qj} : MsgR f (e, false) := fun h => nomatch h
theorem ml3 : 300000 ≤ maxLen := by unfold maxLen; decide
theorem Qti (f : Q7) (hf : FB f) : TotP (fun N => W9 N f) (MsgR f) := by
 have hm := ml3;unfold W9;simp only [Qh, Vj];refine TotP.cond (fun _ => .ret MsgR.no) (fun g => ?_)
 have g : f.Values.length = 4 := by have := of_decide_eq_false g; omega
 refine Qtx (L := fun N n (s : Int × List Q0) => Wu N f n s.1 s.2) (fun s => ∃ i : Nat, s.1 = (i : Int) ∧ i ≤ 4 ∧ s.2.length = 4 ∧ ∀ x ∈ s.2, Fine x) (fun s => 4 - s.1.toNat) (fun s hs => ?_) (0, _) ⟨0, rfl, by omega, rfl, fun x hx => ?_⟩
 ·obtain ⟨i, l⟩ := s;obtain ⟨k, hk, hk4, hl, hx⟩ := hs
  simp only at hk hl hx
  subst hk;show Stp _ _ _ (fun N n => cond (Q3 .lss (k : Int) ((Q0.rows f.Values).length : Int)) _ _);rw [Qh, g, Xb];refine Stp.cond (fun h => ?_) (fun h => ?_)
  ·have h : k < 4 := by have := of_decide_eq_true h; omega
   refine Stp.idx (Xz (show k < f.Values.length by omega)) ?_;have fy : Fine f.Values[k] := hf.fine _ (Lp _);generalize f.Values[k] = y at fy;refine Stp.cond (fun _ => Stp.ret MsgR.no) (fun _ => ?_);rw [Qh, Vj];refine Stp.cond (fun _ => Stp.ret MsgR.no) (fun g2 => ?_)
   have g2 : y.Items.length = 2 := by have := of_decide_eq_false g2; omega
   refine Stp.idx (Z4f (by omega)) ?_;refine Stp.chk (by simp only [Le, decide_eq_true_eq]; omega) ?_;refine Stp.idx (Xz (show k < l.length by omega)) ?_;rw [show wrap .i64 ((k : Int) + 1) = ((k + 1 : Nat) : Int) by rw [w64 _ (by omega)]; omega];refine Stp.go (L := fun N n (s : Int × List Q0) => Wu N f n s.1 s.2) (((k + 1 : Nat) : Int), l.set k y.Items[1]) ⟨⟨k + 1, rfl, by omega, by rw [Cp]; exact hl, fun x hx' => ?_⟩, by simp only [Ms]; omega⟩
   rcases List.mem_or_eq_of_mem_set hx' with h1 | h1
   ·exact hx x h1
   subst h1; exact fy.items _ (Lp _)
  obtain ⟨A, B, C, D, rfl⟩ := Ziw hl;refine Stp.fin ?_;have fC : Fine C := hx C (by simp);refine TotP.idx (y := A) rfl ?_;rw [Qh, Vj];refine TotP.cond (fun _ => .ret MsgR.no) (fun gA => ?_);refine TotP.idx (y := B) rfl ?_;rw [Qh, Vj];refine TotP.cond (fun _ => .ret MsgR.no) (fun gB => ?_);refine TotP.idx (y := C) rfl ?_;rw [Qh, Vj];refine TotP.cond (fun _ => .ret MsgR.no) (fun gC => ?_)
  have gA : A.Items.length = 5 := by have := of_decide_eq_false gA; omega
  have gB : B.Items.length = 6 := by have := of_decide_eq_false gB; omega
  have gC : C.Items.length = 3 := by have := of_decide_eq_false gC; omega
  refine TotP.idx (y := A) rfl ?_;refine TotP.idx (Z4f (by omega)) ?_;refine TotP.idx (y := B) rfl ?_;refine TotP.idx (Z4f (by omega)) ?_;refine TotP.cond (fun _ => .ret MsgR.no) (fun _ => ?_);refine TotP.cond (fun _ => .ret MsgR.no) (fun _ => ?_);refine TotP.idx (y := B) rfl ?_;refine TotP.idx (Zk7 (by omega)) ?_;refine TotP.idx (y := B) rfl ?_;refine TotP.idx (Zki (by omega)) ?_;refine TotP.idx (y := C) rfl ?_;refine TotP.idx (Zj8 (by omega)) ?_;refine TotP.idx (y := D) rfl ?_;have tx : C.Items[2].Text.length ≤ 300000 := (fC.items _ (Lp _)).text;obtain ⟨r, hr, t⟩ := Zf9 (e := ⟨4, 1, C.Items[2].Text, D.Text, wrap .i64 B.Items[1].N', Q3 .eql B.Items[3].N' 1, Q3 .eql B.Items[5].N' 1, wrap .i64 A.Items[1].N', [], 0, [], f.Channel, zP, zM, zF⟩) rfl (Nn tx hm) Qiv (by show Q0.szs [] < 700000000; decide);refine TotP.bindE t ?_;rw [Vj];refine TotP.cond (fun _ => .ret MsgR.no) (fun gr => ?_)
  have gr : r = 0 := by have := of_decide_eq_false gr; omega
  subst gr;have h4 := hr rfl;refine TotP.bindE (Qos _ h4.id h4.qos) ?_;refine TotP.bindE (v := decide (frE _ = f)) ⟨800000000, fun N hN => Q7l hN _ _ (Qtr _)⟩ ?_;refine TotP.cond (fun _ => .ret MsgR.no) (fun gs => .ret fun _ => ⟨h4, t, by simpa using gs⟩)
 have hz : Fine (⟨0, 0, [], []⟩ : Q0) := .mk _ (by unfold okU; decide) (by decide) (fun x hx => by cases hx);simp only [Mf, Nm, or_false, or_self] at hx
 rcases hx with rfl | rfl | rfl | rfl <;> exact hz
theorem vfN (b : Bool) : Q3 .eql (vf b).N' 1 = b := by cases b <;> decide
theorem Qul {e : Qj} (he : E4 e) (hp : Tot (fun N => Y9 N e) 0) : Tot (fun N => W9 N (frE e)) (e, true) := by
 have hq := he.qos; have hi := he.id;have w1 : wrap .i64 e.QoS = e.QoS := w64 _ (by omega);have w2 : wrap .i64 e.ID = e.ID := w64 _ (by omega);refine TotP.tot ?_
 have fin : TotP (fun N => cond (Q3 .gtr e.ID 65535) (some (zE, false)) (cond (Q3 .gtr e.QoS 2) (some (zE, false))
   ((Y9 N (⟨4, 1, e.Topic, e.Payload, wrap .i64 e.QoS, Q3 .eql (vf e.Retain).N' 1, Q3 .eql (vf e.Dup).N' 1, wrap .i64 e.ID, [], 0, [], e.Channel, zP, zM, zF⟩ : Qj)).bind fun v81 =>
   cond (Q3 .neq v81 0) (some (zE, false)) ((Wr N (⟨4, 1, e.Topic, e.Payload, wrap .i64 e.QoS, Q3 .eql (vf e.Retain).N' 1, Q3 .eql (vf e.Dup).N' 1, wrap .i64 e.ID, [], 0, [], e.Channel, zP, zM, zF⟩ : Qj)).bind fun v84 =>
   (Yf N v84 (frE e)).bind fun v86 => cond (!v86) (some (zE, false)) (some ((⟨4, 1, e.Topic, e.Payload, wrap .i64 e.QoS, Q3 .eql (vf e.Retain).N' 1, Q3 .eql (vf e.Dup).N' 1, wrap .i64 e.ID, [], 0, [], e.Channel, zP, zM, zF⟩ : Qj), true)))))) (· = (e, true)) := by
  rw [w1, w2, vfN, vfN, ← he.eq, Q2c, Q2c];refine TotP.cond (fun h => by have := of_decide_eq_true h; omega) (fun _ => ?_);refine TotP.cond (fun h => by have := of_decide_eq_true h; omega) (fun _ => ?_);refine TotP.bindE hp ?_;refine TotP.cond (fun h => absurd h (by decide)) (fun _ => ?_);refine TotP.bindE (Qos _ hi hq) ?_;refine TotP.bindE (v := true) ⟨800000000, fun N hN => by have := Q7l hN (frE e) (frE e) (Qtr _); show Yf N (frE e) (frE e) = _; rw [this]; simp⟩ ?_;exact .ret rfl
 obtain ⟨r, hr, N0, h⟩ := fin;refine ⟨r, hr, N0 + 5, fun N hN => ?_⟩;obtain ⟨M, rfl⟩ : ∃ M, N = M + 5 := ⟨N - 5, by omega⟩;rw [← h (M + 5) (by omega)];rfl
inductive NoFl : Q0 → Prop
 | mk (v : Q0) (h : v.Kind ≠ 11 ∧ v.Kind ≠ 12) (hi : ∀ x ∈ v.Items, NoFl x) : NoFl v
theorem Qnw {l m : List Q0} (h : ∀ x ∈ m, ∀ v : Q0, v.nrm = x → v = x) (e : l.map Q0.nrm = m) : l = m := by
 induction l generalizing m with
 | nil => exact e
 | cons a l ih =>
  cases m with
  | nil => simp at e
  | cons b m =>
   simp only [Mn, Bb] at e;rw [h b (by simp) a e.1, ih (fun x hx => h x (by simp [hx])) e.2]
theorem NoFl.back {w : Q0} (h : NoFl w) : ∀ v : Q0, v.nrm = w → v = w := by
 induction h with
 | mk w hk _ ih =>
  intro v e
  have k : v.Kind = w.Kind := by rw [← e, Q2l]
  have t : v.Text = w.Text := by rw [← e, Q8e]
  have n : v.N' = w.N' := by rw [← e, Q5q, Qab (by rw [k]; exact hk)]
  have i : v.Items = w.Items := Qnw ih (by rw [← Q06, e]);cases v; cases w
  simp_all
theorem NoFl.self {w : Q0} (h : NoFl w) : w.nrm = w := by
 induction h with
 | mk w hk _ ih =>
  rw [Qar, Qab hk]
  have : w.Items.map Q0.nrm = w.Items := by
   conv => rhs; rw [← List.map_id w.Items]
   exact Bd fun x hx => by rw [ih x hx]; rfl
  rw [this];cases w; rfl
theorem Qv4 {k n : Int} (h : k ≠ 11 ∧ k ≠ 12) : NoFl (vn k n) := .mk _ h (fun x hx => by cases hx)
theorem Qwv {k : Int} {s : List UInt8} (h : k ≠ 11 ∧ k ≠ 12) : NoFl (vt k s) := .mk _ h (fun x hx => by cases hx)
theorem Z37 (b : Bool) : NoFl (vf b) := Qv4 (by decide)
theorem Qw0 {k : Int} {l : List Q0} (h : k ≠ 11 ∧ k ≠ 12) (hl : ∀ x ∈ l, NoFl x) : NoFl (vl k l) := .mk _ h hl
theorem Z4n {n : Int} {v : Q0} (h : NoFl v) : NoFl (vs n v) := Qw0 (by decide) (fun x hx => by
 simp only [Mf, Nm, or_false] at hx
 rcases hx with rfl | rfl
 ·exact Qv4 (by decide)
 exact h)
theorem Qss (e : Qj) : ∀ x ∈ (frE e).Values, NoFl x := by
 intro x hx;simp only [frE, Mf, Nm, or_false] at hx
 rcases hx with rfl | rfl | rfl | rfl <;> refine Z4n ?_
 ·refine Qw0 (by decide) fun x hx => ?_;simp only [Mf, Nm, or_false] at hx
  rcases hx with rfl | rfl | rfl | rfl | rfl <;> first | exact Z37 _ | exact Qv4 (by decide) | exact Qwv (by decide)
 ·refine Qw0 (by decide) fun x hx => ?_;simp only [Mf, Nm, or_false] at hx
  rcases hx with rfl | rfl | rfl | rfl | rfl | rfl <;> first | exact Z37 _ | exact Qv4 (by decide) | exact Qwv (by decide)
 ·refine Qw0 (by decide) fun x hx => ?_;simp only [Mf, Nm, or_false] at hx
  rcases hx with rfl | rfl | rfl <;> first | exact Qv4 (by decide) | exact Qwv (by decide)
 exact Qwv (by decide)
theorem Qx7 {f : Q7} {e : Qj} (h : f.nrm = frE e) : f = frE e := by
 have hv : f.Values = (frE e).Values := Qnw (fun x hx => (Qss e x hx).back) (congrArg Q7.Values h)
 have h1 : f.nrm.Type' = (frE e).Type' := by rw [h]
 have h2 : f.nrm.Channel = (frE e).Channel := by rw [h]
 have h3 : f.nrm.Ext = (frE e).Ext := by rw [h]
 exact Q7.ext' h1 h2 h3 hv
theorem Z0w (e : Qj) : (frE e).nrm = frE e := by
 have : (frE e).Values.map Q0.nrm = (frE e).Values := by
  conv => rhs; rw [← List.map_id (frE e).Values]
  exact Bd fun x hx => by rw [(Qss e x hx).self]; rfl
 show (⟨(frE e).Type', (frE e).Channel, (frE e).Ext, (frE e).Values.map Q0.nrm⟩ : Q7) = _;rw [this]
theorem Qu6 : ∀ l : List Q0, Q0.szs (l.map Q0.nrm) = Q0.szs l
 | [] => rfl
 | x :: l => by simp only [Mn, Q0.szs, Qeg, Qu6 l]
theorem Qo4 : ∀ l : List Q0, Q0.wgts (l.map Q0.nrm) = Q0.wgts l
 | [] => rfl
 | x :: l => by simp only [Mn, Q0.wgts, Qim, Qo4 l]
theorem FB.nrm {f : Q7} (h : FB f) : FB f.nrm := by
 refine ⟨fun x hx => ?_, ?_, ?_⟩
 ·obtain ⟨y, hy, rfl⟩ := Mw.1 (show x ∈ f.Values.map Q0.nrm from hx);exact Qhu (h.fine y hy)
 ·show Q0.szs (f.Values.map Q0.nrm) < _;rw [Qu6]; exact h.sz
 show Q0.wgts (f.Values.map Q0.nrm) < _;rw [Qo4]; exact h.wgt
theorem Zmg (f : Q7) : f.nrm.nrm = f.nrm := by
 show (⟨f.Type', f.Channel, f.Ext, (f.Values.map Q0.nrm).map Q0.nrm⟩ : Q7) = ⟨f.Type', f.Channel, f.Ext, f.Values.map Q0.nrm⟩;rw [Qmd]
theorem Qqb {f : Q7} {l : Z3} (h : Q18 f l = 0) : Q18 f.nrm l = 0 := by
 obtain ⟨h1, h2, h3, h4, h5, h6⟩ := Qai h;refine Qua h1 h2 h3 (by show (f.Values.map Q0.nrm).length ≤ 1000; rw [Mh]; exact h4) (fun x hx => ?_) ?_
 ·obtain ⟨y, hy, rfl⟩ := Mw.1 (show x ∈ f.Values.map Q0.nrm from hx);have := h5 y hy;unfold Vc at this ⊢;split
  ·rename_i hr; rw [if_pos hr] at this; exact absurd this (by decide)
  rename_i hr; rw [if_neg hr] at this; exact Qdl y _ this
 have : Q9o f.nrm = Q9o f := by
  show 8 + f.Ext.length + (Q1e (f.Values.map Q0.nrm)).length = 8 + f.Ext.length + (Q1e f.Values).length;unfold Q1e;rw [Cj]
  congr 3
  exact Bd fun x _ => by show x.nrm.nrm.byt = _; rw [Qsr]
 rw [this]; exact h6
theorem Qgb (N : Nat) (l : Z3) : Q1i N l = some (Q8t l) := by
 unfold Q1i Q8t;simp only [Q9, Qfb, Q7c]
 repeat' split
 all_goals (congr 1; symm)
 ·rw [Mq]; simp only [decide_eq_true_eq, Q7c]; omega
 all_goals (rw [decide_eq_false_iff_not]; omega)
theorem Z1u {s : List UInt8} (hs : s.length ≤ 300000) : s.length ≤ (vt 19 s).byt.length := by
 have hc : Vq (vt 19 s) = 0 := by
  unfold Vq
  have h1 : Q7b (vt 19 s).Kind (vt 19 s).N' = true := by show Q7b 19 0 = true; decide
  rw [if_neg (by show ¬ ((19 : Int) < 1 ∨ (21 : Int) < 19); decide), if_neg (by rw [h1]; show ¬ (true = false ∨ ([] : List Q0) ≠ []); simp), if_neg (by show ¬ Q33 19 = false; decide),
   if_neg (by show ¬ (((19 : Int) = 15 ∨ (19 : Int) = 18) ∧ _); intro h; exact absurd h.1 (by decide)), if_neg (by show ¬ 1048576 < s.length; omega)]
  show Qfz 19 s = 0;unfold Qfz;rw [if_neg (by decide), if_neg (by decide)]
 have hfit : Q38 176 (vt 19 s) = true := by
  unfold Q38;rw [hc];show (ofB 176 && decide ((ofS 176).Kind = 19) && decide ((0 : Int) = 0) && Q4w (ofS 176) (vt 19 s)) = true
  have : Q4w (ofS 176) (vt 19 s) = true := by
   unfold Q4w;rw [if_neg (by decide), if_pos (by decide)];exact decide_eq_true (Or.inl (by decide))
  rw [this]; decide
 obtain ⟨f1, f2⟩ := Qj1 (k := 19) (l := [(vt 19 s, (vt 19 s).inn)]) ⟨176, by decide, by
  unfold Qmq;simp only [Bf, List.all_nil, Dq];unfold Q6y
  rw [if_pos (by decide)]; exact hfit⟩
 have hcod : Q34 19 [(vt 19 s, (vt 19 s).inn)] = (vt 19 s).cod := rfl;rw [hcod] at f1 f2
 have hmem : (vt 19 s).cod = 160 ∨ (vt 19 s).cod = 176 := by
  have : Uy 19 = [160, 176] := by decide
  rw [this] at f1; simpa using f1
 have fits : Q38 (vt 19 s).cod (vt 19 s) = true := by
  unfold Qmq at f2;simp only [Bf, List.all_nil, Dq] at f2;unfold Q6y at f2
  rcases hmem with h | h <;> (rw [h] at f2 ⊢; rwa [if_pos (by decide)] at f2)
 rw [Qj8, if_neg (by show ¬ ((19 : Int) = 25); decide)]
 have hi : (ofS (vt 19 s).cod).Items = false := by rcases hmem with h | h <;> (rw [h]; decide)
 have hd : Jn (vt 19 s).cod (vt 19 s) (vt 19 s).inn = Q30 (ofS (vt 19 s).cod) (vt 19 s) := by
  unfold Jn;rw [if_pos hi];unfold Qy9;rw [if_neg (by rw [hc]; simp), if_neg (by rw [fits]; simp)]
 rw [hd, Qb2 fits]
 have hz : (ofS (vt 19 s).cod).Sized = true := by rcases hmem with h | h <;> (rw [h]; decide)
 rw [hz];show s.length ≤ 1 + ((ofS (vt 19 s).cod).Width.toNat + s.length);omega
theorem Z10 {e : Qj} {l : Z3} (hp : e.Payload.length ≤ 300000) (h : Q18 (frE e) l = 0) : (e.Payload.length : Int) ≤ l.MaxPacket := by
 obtain ⟨_, _, _, _, _, h6⟩ := Qai h;have h1 := Z1u hp
 have h2 : (vt 19 e.Payload).byt.length ≤ (vs 117 (vt 19 e.Payload)).byt.length := by
  rw [Qj8 (vs 117 (vt 19 e.Payload)), if_pos (show (vs 117 (vt 19 e.Payload)).Kind = 25 from rfl)];show _ ≤ 1 + ([vn 6 117, vt 19 e.Payload].map Q0.byt).flatten.length;simp;omega
 have h3 : (vs 117 (vt 19 e.Payload)).byt.length ≤ (Q1e (frE e).Values).length := by
  have hn := (Qss e (vs 117 (vt 19 e.Payload)) (by simp [frE])).self;unfold Q1e;simp only [frE, Mn, Ba, Mz, List.flatten_nil, Lt, Nz];rw [hn];omega
 have : Q9o (frE e) = 8 + (frE e).Ext.length + (Q1e (frE e).Values).length := rfl;omega
end
end Go.Av
namespace Go.Av
noncomputable section
theorem Z2z : Z3h zE := ⟨Mv _, Mv _, Qiv, by show Q0.szs [] < 700000000; decide⟩
theorem E4.oks {e : Qj} (h : E4 e) : Z3h e := by
 rw [h.eq]; exact ⟨Mv _, Mv _, Qiv, by show Q0.szs [] < 700000000; decide⟩
theorem LE.oks {e : Qj} (h : LE e) : Z3h e := by
 have h1 := ml2;have h2 : e.Hops.length ≤ 30 := h.dg.hops;have h3 := h.props.len;exact ⟨by omega, by omega, h.pk.l, Dj h.fb.sz (by decide)⟩
def FrR (e : Qj) (r : Q7 × Int) : Prop := r.2 = 0 → E4 e ∧ Tot (fun N => Y9 N e) 0 ∧ r.1 = frE e
theorem Qki (e : Qj) (h : LE e) : TotP (fun N => Q0b N e) (FrR e) := by
 have hm := ml2; have ht := h.topic;unfold Q0b;rw [Vj];refine TotP.cond (fun _ => .ret fun h => absurd h (by decide)) (fun g => ?_)
 have g : e.Proto = 4 := by have := of_decide_eq_false g; omega
 obtain ⟨r, hr, t⟩ := Zf9 g (by omega) h.pk.l h.oks.fr;refine TotP.bindE t ?_;rw [Vj];refine TotP.cond (fun gr => .ret fun h => absurd h (of_decide_eq_true gr)) (fun gr => ?_)
 have gr : r = 0 := by have := of_decide_eq_false gr; omega
 subst gr;have h4 := hr rfl;exact TotP.bindE (Qos e h4.id h4.qos) (.ret fun _ => ⟨h4, t, rfl⟩)
def otE (f : Q7) : Qj := ⟨4, 2, [], [], 0, false, false, 0, [], 0, [], 0, zP, zM, f⟩
def EvR (f : Q7) (l : Z3) (r : Qj × Int) : Prop :=
 (Q18 f l ≠ 0 → r = (zE, Q18 f l)) ∧ (Q18 f l = 0 → r.2 = 0 ∧ ((E4 r.1 ∧ Tot (fun N => Y9 N r.1) 0 ∧ frE r.1 = f) ∨ (r.1 = otE f.nrm ∧ ∃ z, Tot (fun N => W9 N f) (z, false))))
theorem Qay (f : Q7) (l : Z3) (hf : FB f) : Tot (fun N => Wd N f l) (Q18 f l) := ⟨800000000, fun N hN => Qpu hN f l hf⟩
theorem Qpa (f : Q7) (hf : FB f) : Tot (fun N => Wz N f) f.nrm := ⟨800000000, fun N hN => Qsa hN f hf⟩
theorem Qt9 (f : Q7) (l : Z3) (hf : FB f) : TotP (fun N => J9 N f l) (EvR f l) := by
 unfold J9;refine TotP.bindE (Qay f l hf) ?_;rw [Vj];refine TotP.cond (fun g => .ret ⟨fun _ => rfl, fun h => absurd h (of_decide_eq_true g)⟩) (fun g => ?_)
 have g : Q18 f l = 0 := by have := of_decide_eq_false g; omega
 obtain ⟨r, hr, t⟩ := Qti f hf;refine TotP.bindE t ?_;refine TotP.cond (fun b => .ret ⟨fun h => absurd g h, fun _ => ⟨rfl, .inl (hr b)⟩⟩) (fun b => ?_);refine TotP.bindE (Qpa f hf) (.ret ⟨fun h => absurd g h, fun _ => ⟨rfl, .inr ⟨rfl, r.1, ?_⟩⟩⟩)
 have : r = (r.1, false) := by rw [← b]
 rw [← this]; exact t
theorem Qst (f : Q7) (hf : FB f) : Tot (fun N => Yf N f f) true := ⟨800000000, fun N hN => by
 have := Q7l hN f f (Dj hf.sz (by decide));show Yf N f f = _
 rw [this]; simp⟩
theorem Qgd (f : Q7) (hf : FB f) : Tot (fun N => Qk N f f) true := ⟨800000000, fun N hN => by
 have := Qpp hN f f (Dj hf.sz (by decide));show Qk N f f = _
 rw [this]; simp⟩
theorem Z06 {R : Type} {f : Nat → Option R} {a b : R} (h1 : Tot f a) (h2 : Tot f b) : a = b := by
 obtain ⟨n, hn⟩ := h1;obtain ⟨m, hm⟩ := h2;have h3 := hn (max n m) (by omega);rw [hm (max n m) (by omega)] at h3;exact (Option.some.inj h3).symm
theorem Qww {f : Q7} {l : Z3} {e : Qj} (hf : FB f) (hc : Q18 f l = 0) (h4 : E4 e) (hp : Tot (fun N => Y9 N e) 0) (he : frE e = f) (hpl : (e.Payload.length : Int) ≤ l.MaxPacket) : Tot (fun N => Uq N e l) (f, 0) := by
 have hP : e.Proto = 4 := by rw [h4.eq]
 have hK : e.Kind = 1 := by rw [h4.eq]
 have hr := (Qai hc).1;refine TotP.tot ?_;unfold Uq;rw [hP, hK];refine TotP.cond (fun h => absurd h (by decide)) (fun _ => ?_);refine TotP.bindE (v := 0) (TotP.tot ?_) ?_
 ·unfold Q1r;refine TotP.bindE (.of fun N => Qgb N l) ?_;rw [hr, hK];refine TotP.cond (fun h => absurd h (by decide)) (fun _ => ?_);refine TotP.cond (fun _ => ?_) (fun h => absurd h (by decide));refine TotP.bindE hp ?_;refine TotP.cond (fun h => absurd h (by decide)) (fun _ => ?_);rw [Q2c];exact TotP.cond (fun h => by have := of_decide_eq_true h; omega) (fun _ => .ret rfl)
 refine TotP.cond (fun h => absurd h (by decide)) (fun _ => ?_);refine TotP.cond (fun _ => ?_) (fun h => absurd h (by decide));refine TotP.bindE (Qos e h4.id h4.qos) ?_;rw [he];refine TotP.bindE (Qay f l hf) ?_;rw [hc];exact TotP.cond (fun h => absurd h (by decide)) (fun _ => .ret rfl)
theorem Qxa {f : Q7} {l : Z3} (hf : FB f) (hc : Q18 f l = 0) {z : Qj} (hm : Tot (fun N => W9 N f) (z, false)) : Tot (fun N => Uq N (otE f.nrm) l) (f.nrm, 0) := by
 have hn := hf.nrm;have hr := (Qai hc).1;have hcn := Qqb hc
 have nn : Tot (fun N => Wz N f.nrm) f.nrm := by have := Qpa f.nrm hn; rwa [Zmg] at this
 refine TotP.tot ?_;unfold Uq;show TotP (fun N => cond (Q3 .neq 4 4) _ _) _;refine TotP.cond (fun h => absurd h (by decide)) (fun _ => ?_);refine TotP.bindE (v := 0) (TotP.tot ?_) ?_
 ·unfold Q1r;refine TotP.bindE (.of fun N => Qgb N l) ?_;rw [hr];refine TotP.cond (fun h => absurd h (by decide)) (fun _ => ?_);show TotP (fun N => cond (Q3 .eql 2 1) _ (cond (Q3 .eql 2 2) _ _)) _;refine TotP.cond (fun h => absurd h (by decide)) (fun _ => ?_);refine TotP.cond (fun _ => ?_) (fun h => absurd h (by decide));refine TotP.bindE (v := 0) (TotP.tot ?_) (.ret rfl);unfold Q3c;show TotP (fun N => cond (Q3 .eql 4 1) _ (cond (Q3 .eql 4 2) _ (cond (Q3 .eql 4 3) _ (cond (Q3 .eql 4 4) _ _)))) _;refine TotP.cond (fun h => absurd h (by decide)) (fun _ => ?_);refine TotP.cond (fun h => absurd h (by decide)) (fun _ => ?_);refine TotP.cond (fun h => absurd h (by decide)) (fun _ => ?_);refine TotP.cond (fun _ => ?_) (fun h => absurd h (by decide));refine TotP.bind (Qin (otE f.nrm) (otE f.nrm) ⟨Mv _, Mv _, Qiv, Dj hn.sz (by decide)⟩) (fun v hv => ?_);have hv : v = true := hv.2 rfl;subst hv;refine TotP.cond (fun h => absurd h (by decide)) (fun _ => ?_);refine TotP.bindE nn ?_;refine TotP.bindE (Qst _ hn) ?_;refine TotP.cond (fun h => absurd h (by decide)) (fun _ => ?_);refine TotP.bindE (Qay f.nrm l hn) ?_;rw [hcn];exact .ret rfl
 refine TotP.cond (fun h => absurd h (by decide)) (fun _ => ?_);show TotP (fun N => cond (Q3 .eql 2 1) _ _) _;refine TotP.cond (fun h => absurd h (by decide)) (fun _ => ?_);obtain ⟨r, hr', t⟩ := Qti f.nrm hn;refine TotP.bindE t ?_;refine TotP.cond (fun b => ?_) (fun _ => ?_)
 ·obtain ⟨g1, g2, g3⟩ := hr' b;have hb := Qx7 g3.symm;have := Qul g1 g2;rw [← hb] at this;have := Z06 this hm;cases this
 refine TotP.bindE nn ?_;refine TotP.bindE (Qay f.nrm l hn) ?_;rw [hcn];exact TotP.cond (fun h => absurd h (by decide)) (fun _ => .ret rfl)
theorem Qmu (f : Q7) (l : Z3) (hf : FB f) (ht : ∀ e, frE e = f → e.Payload.length ≤ 300000) : TotP (fun N => (J9 N f l).bind fun v27 =>
  (Yn N f l).bind fun v29 =>
  cond (Q3 .neq v27.2 v29) (some false) (cond (Q3 .neq v27.2 0) ((Zu N v27.1 zE).bind fun v33 => some v33)
   ((Uq N v27.1 l).bind fun v35 => cond (Q3 .eql v27.1.Kind 1)
    (cond (Q3 .gtr (v27.1.Payload.length : Int) l.MaxPacket) (some false) (cond (Q3 .eql v35.2 0) ((Qv N f).bind fun v40 => (Qk N v35.1 v40).bind fun v42 => some v42) (some false)))
    (cond (Q3 .eql v35.2 0) ((Qv N f).bind fun v45 => (Qk N v35.1 v45).bind fun v47 => some v47) (some false))))) (· = true) := by
 have rn : Tot (fun N => Qv N f) f.nrm := ⟨800000000, fun N hN => Qli hN f hf⟩;refine TotP.bind (Qt9 f l hf) (fun r hr => ?_);refine TotP.bindE (v := Q18 f l) ⟨800000000, fun N hN => Qj2 hN f l hf⟩ ?_
 by_cases hc : Q18 f l = 0
 ·obtain ⟨h2, h3⟩ := hr.2 hc;rw [hc, h2];refine TotP.cond (fun h => absurd h (by decide)) (fun _ => ?_);refine TotP.cond (fun h => absurd h (by decide)) (fun _ => ?_)
  rcases h3 with ⟨g1, g2, g3⟩ | ⟨g1, z, g2⟩
  ·have hpl : (r.1.Payload.length : Int) ≤ l.MaxPacket := Z10 (ht _ g3) (by rw [g3]; exact hc)
   have hK : r.1.Kind = 1 := by rw [g1.eq]
   have hn : f.nrm = f := by rw [← g3, Z0w]
   rw [hn] at rn;refine TotP.bindE (Qww hf hc g1 g2 g3 hpl) ?_;rw [hK, Q2c];refine TotP.cond (fun _ => ?_) (fun h => absurd h (by decide));refine TotP.cond (fun h => by have := of_decide_eq_true h; omega) (fun _ => ?_);refine TotP.cond (fun _ => ?_) (fun h => absurd (show Q3 .eql 0 0 = false from h) (by decide));refine TotP.bindE rn ?_;exact TotP.bindE (Qgd f hf) (.ret rfl)
  rw [g1];refine TotP.bindE (Qxa hf hc g2) ?_;show TotP (fun N => cond (Q3 .eql 2 1) _ _) _;refine TotP.cond (fun h => absurd h (by decide)) (fun _ => ?_);refine TotP.cond (fun _ => ?_) (fun h => absurd (show Q3 .eql 0 0 = false from h) (by decide));refine TotP.bindE rn ?_;exact TotP.bindE (Qgd f.nrm hf.nrm) (.ret rfl)
 have h := hr.1 hc;rw [h];refine TotP.cond (fun h => absurd h (by rw [Vj]; simp)) (fun _ => ?_);refine TotP.cond (fun _ => ?_) (fun h => absurd h (by rw [Vj]; simp [hc]));refine TotP.bind (Q6a zE zE Z2z) (fun v hv => .ret (hv.2 rfl))
theorem Z2h {e : Qj} (h : Q9z e) : OkE e := ⟨h.Topic_ok, h.Props_ok.1, h.Packet_ok.Filters_ok.1, h.Packet_ok.Props_ok.1, h.Packet_ok.Will_ok.Props_ok.1⟩
theorem Z2j (e o : Qj) (f : Q7) (l : Z3) (he : Q9z e) (ho : Q9z o) (hfo : Qd4 f) : ∃ N, Wa N e o f l = some true := by
 have key : TotP (fun N => Wa N e o f l) (· = true) := by
  unfold Wa;refine TotP.bind (Qp4 e (Z2h he) he.Frame_ok.Values_ok.2) (fun v1 g1 => ?_);refine TotP.cond (fun _ => .ret rfl) (fun n1 => ?_);have L1 := g1 (by simpa using n1);refine TotP.bind (Qp4 o (Z2h ho) ho.Frame_ok.Values_ok.2) (fun v2 g2 => ?_);refine TotP.cond (fun _ => .ret rfl) (fun n2 => ?_);have L2 := g2 (by simpa using n2);refine TotP.bind (Qod f hfo.Values_ok.2) (fun v3 g3 => ?_);refine TotP.cond (fun _ => .ret rfl) (fun n3 => ?_);have hf := g3 (by simpa using n3)
  have ht : ∀ x, frE x = f → x.Payload.length ≤ 300000 := fun x hx' => by
   have := hf.fine (vs 117 (vt 19 x.Payload)) (by rw [← hx']; simp [frE]);exact (this.items (vt 19 x.Payload) (by simp [vs, vl])).text
  refine TotP.bind (Qki e L1) (fun r hr => ?_);rw [Q0z];refine TotP.cond (fun z => ?_) (fun _ => Qmu f l hf ht);obtain ⟨h4, hp, hfr⟩ := hr (of_decide_eq_true z);rw [hfr];refine TotP.bindE (Qul h4 hp) ?_;refine TotP.bind (Qki o L2) (fun q hq => ?_);refine TotP.cond (fun h => absurd (show (!true) = true from h) (by decide)) (fun _ => ?_);refine TotP.bind (Q6a e e L1.oks) (fun v hv => ?_);have hv : v = true := hv.2 rfl;subst hv;refine TotP.cond (fun h => absurd h (by decide)) (fun _ => ?_);rw [Q0z];refine TotP.cond (fun zq => ?_) (fun _ => Qmu f l hf ht);obtain ⟨k4, kp, kfr⟩ := hq (of_decide_eq_true zq);rw [kfr];refine TotP.bindE (v := decide (frE e = frE o)) ⟨800000000, fun N hN => Qpp hN _ _ (Qtr _)⟩ ?_;refine TotP.bind (Q6a e o L1.oks) (fun w hw => ?_)
  have : decide (frE e = frE o) = w := by
   rw [Mq, decide_eq_true_iff, hw];exact ⟨fun h => Qzk h4 k4 h, fun h => by rw [h]⟩
  rw [this];refine TotP.cond (fun h => absurd h (by cases w <;> decide)) (fun _ => Qmu f l hf ht)
 obtain ⟨N, hN⟩ := key.tot;exact ⟨N, hN N (Lk _)⟩
end
end Go.Av
