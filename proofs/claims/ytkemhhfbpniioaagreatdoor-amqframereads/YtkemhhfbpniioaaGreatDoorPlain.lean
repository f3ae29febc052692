/- The law. Part of a proof of a given statement: for every input the law returns true and the arguments read as before; no condition beyond the given row. -/
import Derived.Test.YtkemhhfbpniioaaGreatDoorLiftF5
import Derived.Test.YtkemhhfbpniioaaGreatDoorAvLift
import Derived.Test.YtkemhhfbpniioaaGreatDoorOks
namespace Go.Av
noncomputable section
open Go.Proofs
theorem Qa {α : Type} (b : Bool) (x y : α) : cond b x y = if b = true then x else y := by cases b <;> rfl
@[simp] theorem Vg (x y : Int) : (Q9 .lss x y = true) = (x < y) := by simp [Q9]
@[simp] theorem Q5n (x y : Int) : (Q9 .leq x y = true) = (x ≤ y) := by simp [Q9]
@[simp] theorem Q3q (x y : Int) : (Q9 .gtr x y = true) = (x > y) := by simp [Q9]
@[simp] theorem Qfj (x y : Int) : (Q9 .geq x y = true) = (x ≥ y) := by simp [Q9]
@[simp] theorem Va (x y : Int) : (Q9 .eql x y = true) = (x = y) := by simp [Q9]
@[simp] theorem Uk (x y : Int) : (Q9 .neq x y = true) = (x ≠ y) := by simp [Q9]
theorem Qu (x : Int) (h : -9223372036854775808 ≤ x ∧ x ≤ 9223372036854775807) : IntKind.wrap .i64 x = x := IntWalk.i64_in x h
mutual
def Q0.sz : Q0 → Nat
 | .mk _ _ _ is => 1 + Q0.szs is
def Q0.szs : List Q0 → Nat
 | [] => 0
 | v :: l => v.sz + Q0.szs l
end
theorem Q0.sz_eq (v : Q0) : v.sz = 1 + Q0.szs v.Items := by cases v; simp [Q0.sz]
theorem Q0.szs_len : ∀ l : List Q0, l.length ≤ Q0.szs l
 | [] => by simp
 | v :: l => by
  have h1 := Q0.szs_len l
  have h2 := Q0.sz_eq v
  simp only [Q0.szs, List.length_cons]
  omega
theorem Q0.szs_mem : ∀ (l : List Q0) (v : Q0), v ∈ l → v.sz ≤ Q0.szs l
 | [], v, h => by cases h
 | u :: l, v, h => by
  simp only [Q0.szs]
  rcases List.mem_cons.1 h with rfl | h
  ·omega
  ·have := Q0.szs_mem l v h; omega
noncomputable instance : DecidableEq Q0 := fun a b => Classical.propDecidable (a = b)
theorem Zh (l : List Q0) : (Q0.rows l).length = l.length := by rw [Q0.rows_eq, Q0j]
theorem X4 {α : Type} (l : List α) (i : Nat) : idx l (i : Int) = l[i]? := rfl
theorem Q75 {R : Q0 → Q0 → Option Bool} {N : Nat} {a b : Q0} (hlen : a.Items.length = b.Items.length) (hb : a.Items.length < 4611686018427387904)
  (hR : ∀ y ∈ a.Items, ∀ z, R y z = some (decide (y = z))) : ∀ (n i : Nat), i ≤ a.Items.length → a.Items.length - i < n →
  Zp R N a b n (i : Int) = some (decide (a.Items.drop i = b.Items.drop i))
 | 0, i, _, h => by omega
 | n + 1, i, h1, h2 => by
  simp only [Zp, Qa, Vg, Zh]
  by_cases hi : i < a.Items.length
  ·rw [if_pos (by omega), X4, X4, List.getElem?_eq_getElem hi, List.getElem?_eq_getElem (show i < b.Items.length by omega)]
   simp only [Option.bind_some, hR _ (List.getElem_mem hi)]
   rw [Qu _ (by omega)]
   have ih := Q75 (N := N) hlen hb hR n (i + 1) (by omega) (by omega)
   rw [List.drop_eq_getElem_cons hi, List.drop_eq_getElem_cons (show i < b.Items.length by omega)]
   by_cases he : a.Items[i] = b.Items[i]
   ·rw [← he]; simp only [decide_true, Bool.not_true, Bool.false_eq_true, if_false, List.cons.injEq, true_and]
    exact_mod_cast ih
   ·have hne : ¬ (a.Items[i] :: List.drop (i + 1) a.Items = b.Items[i] :: List.drop (i + 1) b.Items) := fun e => he (List.cons.inj e).1
    simp only [he, decide_false, Bool.not_false, if_true]
    rw [decide_eq_false hne]
  ·rw [if_neg (by omega), List.drop_of_length_le (by omega), List.drop_of_length_le (by omega)]
   simp
theorem Q0k (x y : List UInt8) : (Q7t .neq x y = true) = (x ≠ y) := by simp [Q7t]
theorem Q78 : ∀ (N : Nat) (a b : Q0), a.sz < N → a.sz < 1000000000 → Zs N a b = some (decide (a = b))
 | 0, a, b, h, _ => by have := a.sz_eq; omega
 | N + 1, a, b, h, h2 => by
  have hs := a.sz_eq
  have hl := Q0.szs_len a.Items
  simp only [Zs, Wk, Qa, Uk, Q0k, Zh]
  by_cases e1 : a.Kind = b.Kind
  ·by_cases e2 : a.N' = b.N'
   ·by_cases e3 : a.Text = b.Text
    ·by_cases e4 : a.Items.length = b.Items.length
     ·rw [if_neg (by simp [e1]), if_neg (by simp [e2]), if_neg (by simp [e3]), if_neg (by simp [e4])]
      have := Q75 (N := N) (R := Zs N) e4 (by omega) (fun y hy z => Q78 N y z (by have := Q0.szs_mem _ y hy; omega) (by have := Q0.szs_mem _ y hy; omega)) N 0 (by omega) (by omega)
      rw [show (0 : Int) = ((0 : Nat) : Int) from rfl, this]
      cases a; cases b; simp_all
     ·rw [if_neg (by simp [e1]), if_neg (by simp [e2]), if_neg (by simp [e3]), if_pos (by omega)]
      have : a ≠ b := fun e => e4 (by rw [e])
      simp [this]
    ·rw [if_neg (by simp [e1]), if_neg (by simp [e2]), if_pos (by simpa using e3)]
     have : a ≠ b := fun e => e3 (by rw [e])
     simp [this]
   ·rw [if_neg (by simp [e1]), if_pos (by simpa using e2)]
    have : a ≠ b := fun e => e2 (by rw [e])
    simp [this]
  ·rw [if_pos (by simpa using e1)]
   have : a ≠ b := fun e => e1 (by rw [e])
   simp [this]
end
end Go.Av
namespace Go.Av
noncomputable section
open Go.Proofs
mutual
def Q0.txt : Q0 → Prop
 | .mk _ _ t is => t.length ≤ 400 ∧ Q0.txts is
def Q0.txts : List Q0 → Prop
 | [] => True
 | v :: l => v.txt ∧ Q0.txts l
end
theorem Q0.txt_eq (v : Q0) : v.txt = (v.Text.length ≤ 400 ∧ Q0.txts v.Items) := by cases v; simp [Q0.txt]
theorem Q0.szs_app : ∀ l m : List Q0, Q0.szs (l ++ m) = Q0.szs l + Q0.szs m
 | [], m => by simp [Q0.szs]
 | v :: l, m => by simp [Q0.szs, Q0.szs_app l m]; omega
theorem Q0.txts_app : ∀ l m : List Q0, Q0.txts (l ++ m) = (Q0.txts l ∧ Q0.txts m)
 | [], m => by simp [Q0.txts]
 | v :: l, m => by simp [Q0.txts, Q0.txts_app l m, and_assoc]
theorem Qi9 {R : Q0 → Int → Int → Option Int} {N : Nat} {v : Q0} {deep most : Int} (hd : 0 ≤ deep ∧ deep ≤ 6) (hm : 0 ≤ most ∧ most ≤ 40) (hl : (v.Items.length : Int) ≤ most)
  (hR : ∀ y (m : Int), 0 ≤ m → m ≤ 40 → ∃ r, R y (deep - 1) m = some r ∧ 1 ≤ r ∧ r ≤ m + 1 ∧ (r ≤ m → r = y.sz ∧ y.txt)) : ∀ (n : Nat) (k : Int) (i : Nat), i ≤ v.Items.length → v.Items.length - i < n →
  1 ≤ k → k ≤ most + 1 → (k ≤ most → k = 1 + Q0.szs (v.Items.take i) ∧ Q0.txts (v.Items.take i)) →
  ∃ r, Yp R N v deep most n k (i : Int) = some r ∧ 1 ≤ r ∧ r ≤ most + 1 ∧ (r ≤ most → r = 1 + Q0.szs v.Items ∧ Q0.txts v.Items)
 | 0, _, _, _, h, _, _, _ => by omega
 | n + 1, k, i, h1, h2, hk1, hk2, hk3 => by
  simp only [Yp, Qa, Vg, Q5n, Zh]
  by_cases hi : i < v.Items.length
  ·rw [if_pos (by omega)]
   by_cases hkm : k ≤ most
   ·rw [if_pos hkm, X4, List.getElem?_eq_getElem hi, Qu (deep - 1) (by omega), Qu (most - k) (by omega)]
    obtain ⟨r, r1, r2, r3, r4⟩ := hR v.Items[i] (most - k) (by omega) (by omega)
    simp only [Option.bind_some, r1]
    rw [Qu (k + r) (by omega), Qu ((i : Int) + 1) (by omega)]
    have := Qi9 (N := N) hd hm hl hR n (k + r) (i + 1) (by omega) (by omega) (by omega) (by omega) (fun h => by
     obtain ⟨q1, q2⟩ := r4 (by omega)
     obtain ⟨q3, q4⟩ := hk3 hkm
     rw [List.take_succ_eq_append_getElem hi, Q0.szs_app, Q0.txts_app]
     refine ⟨?_, q4, ?_⟩
     ·simp only [Q0.szs]; omega
     ·simp only [Q0.txts]; exact ⟨q2, trivial⟩)
    exact_mod_cast this
   ·rw [if_neg hkm]
    exact ⟨k, rfl, hk1, hk2, fun h => absurd h hkm⟩
  ·rw [if_neg (by omega)]
   refine ⟨k, rfl, hk1, hk2, fun h => ?_⟩
   have := hk3 h
   rwa [List.take_of_length_le (by omega)] at this
theorem Qb1 : ∀ (N : Nat) (v : Q0) (deep most : Int), -1 ≤ deep → deep ≤ 6 → 0 ≤ most → most ≤ 40 → deep + 50 < N →
  ∃ r, Yv N v deep most = some r ∧ 1 ≤ r ∧ r ≤ most + 1 ∧ (r ≤ most → r = v.sz ∧ v.txt)
 | 0, v, deep, most, h1, h2, h3, h4, h5 => by omega
 | N + 1, v, deep, most, h1, h2, h3, h4, h5 => by
  simp only [Yv, Vt, Qa, Vg, Q3q, Zh, Qu (most + 1) (show _ by omega)]
  by_cases e1 : deep < 0
  ·rw [if_pos e1]; exact ⟨_, rfl, by omega, by omega, fun h => by omega⟩
  rw [if_neg e1]
  by_cases e2 : (v.Items.length : Int) > most
  ·rw [if_pos e2]; exact ⟨_, rfl, by omega, by omega, fun h => by omega⟩
  rw [if_neg e2]
  by_cases e3 : (v.Text.length : Int) > 400
  ·rw [if_pos e3]; exact ⟨_, rfl, by omega, by omega, fun h => by omega⟩
  rw [if_neg e3]
  have := Qi9 (N := N) (R := Yv N) (v := v) (deep := deep) (most := most) ⟨by omega, h2⟩ ⟨h3, h4⟩ (by omega)
   (fun y m hm1 hm2 => Qb1 N y (deep - 1) m (by omega) (by omega) hm1 hm2 (by omega)) N 1 0 (by omega) (by omega) (by omega) (by omega) (fun _ => by simp [Q0.szs, Q0.txts])
  obtain ⟨r, r1, r2, r3, r4⟩ := this
  refine ⟨r, r1, r2, r3, fun h => ?_⟩
  obtain ⟨q1, q2⟩ := r4 h
  have hs := v.sz_eq
  rw [Q0.txt_eq]
  exact ⟨by omega, by omega, q2⟩
theorem Qj0 (N : Nat) (v : Q0) (h : 60 < N) : ∃ b, X1 N v = some b ∧ (b = true → v.sz ≤ 40 ∧ v.txt) := by
 obtain ⟨r, r1, r2, r3, r4⟩ := Qb1 N v 6 40 (by omega) (by omega) (by omega) (by omega) (by omega)
 refine ⟨Q9 .leq r 40, by simp [X1, r1], fun h => ?_⟩
 rw [Q5n] at h
 obtain ⟨q1, q2⟩ := r4 h
 exact ⟨by omega, q2⟩
end
end Go.Av
namespace Go.Av
noncomputable section
open Go.Proofs
def Ut (k : Int) : Int × Bool :=
 if k = 2 then (1, false) else if k = 3 then (8, false) else if k = 4 then (16, false)
 else if k = 5 ∨ k = 11 ∨ k = 13 ∨ k = 16 then (32, false) else if k = 6 ∨ k = 12 ∨ k = 14 then (64, false)
 else if k = 7 then (8, true) else if k = 8 then (16, true) else if k = 9 then (32, true) else if k = 10 ∨ k = 17 then (64, true) else (0, false)
theorem Qg7 (N : Nat) (k : Int) : V7 N k = some (Ut k) := by
 by_cases h2 : k = 2
 ·subst h2; rfl
 by_cases h3 : k = 3
 ·subst h3; rfl
 by_cases h4 : k = 4
 ·subst h4; rfl
 by_cases h5 : k = 5
 ·subst h5; rfl
 by_cases h11 : k = 11
 ·subst h11; rfl
 by_cases h13 : k = 13
 ·subst h13; rfl
 by_cases h16 : k = 16
 ·subst h16; rfl
 by_cases h6 : k = 6
 ·subst h6; rfl
 by_cases h12 : k = 12
 ·subst h12; rfl
 by_cases h14 : k = 14
 ·subst h14; rfl
 by_cases h7 : k = 7
 ·subst h7; rfl
 by_cases h8 : k = 8
 ·subst h8; rfl
 by_cases h9 : k = 9
 ·subst h9; rfl
 by_cases h10 : k = 10
 ·subst h10; rfl
 by_cases h17 : k = 17
 ·subst h17; rfl
 unfold V7 Ut
 simp [Qa, h2, h3, h4, h5, h11, h13, h16, h6, h12, h14, h7, h8, h9, h10, h17]
def Q2k (k : Int) : Bool := decide (k = 15 ∨ k = 18 ∨ k = 19 ∨ k = 20 ∨ k = 21)
theorem Qjn (N : Nat) (k : Int) : Wo N k = some (Q2k k) := by
 unfold Wo Q2k
 simp only [Qa, Va]
 repeat' split
 all_goals simp_all
def Qok (n : Int) : Bool := decide (n ≤ 1114111 ∧ ¬ (55296 ≤ n ∧ n ≤ 57343))
theorem Qdt (N : Nat) (n : Int) (h0 : 0 ≤ n) : Wr N n = some (Qok n) := by
 unfold Wr W2 Qok
 simp only [Qa, Q5n, Vg]
 by_cases h : n ≤ 1114111
 ·have hw : IntKind.wrap .i32 n = n := by
   simp only [IntKind.wrap, IntKind.bits, IntKind.signed]
   simp
   omega
  rw [if_pos h, hw]
  repeat' split
  all_goals (simp; omega)
 ·rw [if_neg h]
  simp [h]
def s64 (n : Int) : Int := if n < 9223372036854775808 then n else n - 18446744073709551616
theorem Qo3 (n : Int) (h0 : 0 ≤ n) (h1 : n < 18446744073709551616) : IntKind.i64.wrap n = s64 n := by
 unfold s64
 split
 ·exact IntWalk.i64_in n (by omega)
 ·simp only [IntKind.wrap, IntKind.bits, IntKind.signed]
  simp
  omega
def Q3s (n bits : Int) (signed : Bool) : Bool := if signed then decide (-(2 ^ (bits.toNat - 1)) ≤ s64 n ∧ s64 n < 2 ^ (bits.toNat - 1)) else decide (n < 2 ^ bits.toNat)
theorem Qb5 {m k : Nat} (h : m ≤ k) : (2 : Int) ^ m ≤ 2 ^ k := by
 have := Nat.pow_le_pow_right (n := 2) (by omega) h
 exact_mod_cast this
theorem two_pow_pos (m : Nat) : (1 : Int) ≤ 2 ^ m := by
 have := Nat.one_le_two_pow (n := m)
 exact_mod_cast this
theorem Qql (k : Int) (h0 : 0 ≤ k) (h1 : k ≤ 63) : IntKind.i64.wrap (-1 * 2 ^ min (IntKind.i64.wrap k).toNat IntKind.i64.bits) = -(2 ^ k.toNat) := by
 have e1 : IntKind.i64.wrap k = k := IntWalk.i64_in _ (by omega)
 have e2 : min k.toNat IntKind.i64.bits = k.toNat := by simp [IntKind.bits]; omega
 have h2 := Qb5 (m := k.toNat) (k := 63) (by omega)
 have h3 := two_pow_pos k.toNat
 rw [e1, e2, IntWalk.i64_in _ (by omega)]
 omega
theorem Q91 (N : Nat) (n bits : Int) (signed : Bool) (h0 : 0 ≤ n) (h1 : n < 18446744073709551616) (hb0 : 0 ≤ bits) (hb1 : bits ≤ 64) (hs : signed = true → 1 ≤ bits) :
  Xz N n bits signed = some (Q3s n bits signed) := by
 unfold Xz
 cases signed
 ·simp only [Qa, Va, Bool.false_eq_true, if_false, decide_eq_true_eq]
  by_cases h : bits = 64
  ·rw [if_pos h]
   subst h
   simp only [Q3s, Bool.false_eq_true, if_false, Option.some.injEq]
   exact (decide_eq_true (by simpa using h1)).symm
  ·rw [if_neg h, if_pos hb0]
   simp only [Q3s, Bool.false_eq_true, if_false, Option.some.injEq, Q9, Q1g]
   have e2 : min bits.toNat IntKind.u64.bits = bits.toNat := by simp [IntKind.bits]; omega
   rw [e2, Bool.eq_iff_iff]
   simp only [beq_iff_eq, decide_eq_true_eq]
   have h3 := two_pow_pos bits.toNat
   rw [Int.fdiv_eq_ediv_of_nonneg _ (by omega)]
   constructor
   ·intro h4
    have := Int.lt_ediv_add_one_mul_self n (show (0 : Int) < 2 ^ bits.toNat by omega)
    rw [h4] at this
    simpa using this
   ·intro h4
    exact Int.ediv_eq_zero_of_lt h0 h4
 ·have hs := hs rfl
  have e1 : IntKind.i64.wrap (bits - 1) = bits - 1 := IntWalk.i64_in _ (by omega)
  have e2 := Qql (bits - 1) (by omega) (by omega)
  have e3 := Qo3 n h0 h1
  have h2 := Qb5 (m := (bits - 1).toNat) (k := 63) (by omega)
  have h3 := two_pow_pos (bits - 1).toNat
  have e4 : (bits - 1).toNat = bits.toNat - 1 := by omega
  rw [e1] at e2
  simp only [Qa, Qfj, if_true, decide_eq_true_eq, Q0d, e1, e2, e3]
  rw [if_pos (by omega), IntWalk.i64_in (-2 ^ (bits - 1).toNat + 1) (by omega), IntWalk.i64_in (0 - (-2 ^ (bits - 1).toNat + 1)) (by omega)]
  rw [e4] at h2 h3 ⊢
  split
  ·rename_i h
   simp only [Q3s, if_true, Option.some.injEq, Q9, decide_eq_decide]
   omega
  ·rename_i h
   simp only [Q3s, if_true, Option.some.injEq]
   exact (decide_eq_false (by omega)).symm
end
end Go.Av
namespace Go.Av
noncomputable section
def Vj (s : List UInt8) : Nat := s.foldl (fun a b => a * 256 + b.toNat) 0
theorem Q64 (s : List UInt8) (b : UInt8) : Vj (s ++ [b]) = Vj s * 256 + b.toNat := by simp [Vj]
def V8 : Nat → Nat → List UInt8
 | _, 0 => []
 | n, w + 1 => V8 (n / 256) w ++ [UInt8.ofNat (n % 256)]
theorem Za : ∀ (w n : Nat), (V8 n w).length = w
 | 0, _ => rfl
 | w + 1, n => by simp [V8, Za w]
theorem Q1k : ∀ (w n : Nat), Vj (V8 n w) = n % 256 ^ w
 | 0, n => by simp [V8, Vj, Nat.mod_one]
 | w + 1, n => by
  rw [V8, Q64, Q1k w, Nat.pow_succ, Nat.mul_comm (256 ^ w) 256, Nat.mod_mul]
  have : (UInt8.ofNat (n % 256)).toNat = n % 256 := by simp
  rw [this]; omega
theorem Qpo {α : Type} {P : List α → Prop} (h0 : P []) (h1 : ∀ s b, P s → P (s ++ [b])) (s : List α) : P s := by
 have h : ∀ t : List α, P t.reverse := by
  intro t
  induction t with
  | nil => exact h0
  | cons b t ih => rw [List.reverse_cons]; exact h1 _ _ ih
 have := h s.reverse
 rwa [List.reverse_reverse] at this
theorem Q27 : ∀ (s : List UInt8), Vj s < 256 ^ s.length := by
 refine Qpo (by simp [Vj]) (fun s b ih => ?_)
 ·rw [Q64, List.length_append, List.length_singleton, Nat.pow_succ]
  have := b.toNat_lt
  simp at this
  omega
theorem Qkz : ∀ (s : List UInt8), V8 (Vj s) s.length = s := by
 refine Qpo rfl (fun s b ih => ?_)
 ·rw [Q64, List.length_append, List.length_singleton, V8]
  have hb := b.toNat_lt
  simp at hb
  rw [show (Vj s * 256 + b.toNat) / 256 = Vj s by omega, ih, show (Vj s * 256 + b.toNat) % 256 = b.toNat by omega]
  simp
theorem Qhn : ∀ (w n : Nat), V8 (n % 256 ^ w) w = V8 n w
 | 0, n => rfl
 | w + 1, n => by
  have h := Qhn w (n / 256)
  rw [V8, V8, Nat.pow_succ, Nat.mul_comm (256 ^ w) 256, Nat.mod_mul]
  rw [show (n % 256 + 256 * (n / 256 % 256 ^ w)) / 256 = n / 256 % 256 ^ w by omega, h, show (n % 256 + 256 * (n / 256 % 256 ^ w)) % 256 = n % 256 by omega]
end
end Go.Av
namespace Go.Av
noncomputable section
open Go.Proofs
def inB (s : List UInt8) (i lo hi : Nat) : Bool := match s[i]? with
 | some b => decide (lo ≤ b.toNat ∧ b.toNat ≤ hi)
 | none => false
def cpN (s : List UInt8) : Nat := match s with
 | [] => 0
 | c :: _ => if c.toNat < 128 then 1
  else if 194 ≤ c.toNat ∧ c.toNat ≤ 223 then (if inB s 1 128 191 then 2 else 0)
  else if c.toNat = 224 then (if inB s 1 160 191 && inB s 2 128 191 then 3 else 0)
  else if c.toNat = 237 then (if inB s 1 128 159 && inB s 2 128 191 then 3 else 0)
  else if 225 ≤ c.toNat ∧ c.toNat ≤ 239 then (if inB s 1 128 191 && inB s 2 128 191 then 3 else 0)
  else if c.toNat = 240 then (if inB s 1 144 191 && inB s 2 128 191 && inB s 3 128 191 then 4 else 0)
  else if 241 ≤ c.toNat ∧ c.toNat ≤ 243 then (if inB s 1 128 191 && inB s 2 128 191 && inB s 3 128 191 then 4 else 0)
  else if c.toNat = 244 then (if inB s 1 128 143 && inB s 2 128 191 && inB s 3 128 191 then 4 else 0)
  else 0
def Q5y : Nat → List UInt8 → Bool
 | 0, s => s.isEmpty
 | n + 1, s => if s.isEmpty then true else match cpN s with
  | 0 => false
  | k + 1 => Q5y n (s.drop (k + 1))
def Wx (s : List UInt8) : Bool := Q5y s.length s
theorem Qej : ∀ (n m : Nat) (s : List UInt8), s.length ≤ n → s.length ≤ m → Q5y n s = Q5y m s
 | 0, 0, s, _, _ => rfl
 | 0, m + 1, s, h, _ => by
  have : s = [] := List.length_eq_zero_iff.1 (by omega)
  subst this; simp [Q5y]
 | n + 1, 0, s, _, h => by
  have : s = [] := List.length_eq_zero_iff.1 (by omega)
  subst this; simp [Q5y]
 | n + 1, m + 1, s, h1, h2 => by
  simp only [Q5y]
  cases s with
  | nil => rfl
  | cons c r =>
   simp only [List.isEmpty_cons, Bool.false_eq_true, if_false]
   split
   ·rfl
   ·exact Qej n m _ (by simp at h1 ⊢; omega) (by simp at h2 ⊢; omega)
theorem Ql4 : Wx [] = true := rfl
theorem Q5m (s : List UInt8) (hne : s ≠ []) (h : cpN s = 0) : Wx s = false := by
 cases s with
 | nil => exact absurd rfl hne
 | cons c r => unfold Wx; simp only [List.length_cons, Q5y, h]; rfl
theorem Q3h (s : List UInt8) (k : Nat) (h : cpN s = k + 1) : Wx s = Wx (s.drop (k + 1)) := by
 cases s with
 | nil => simp [cpN] at h
 | cons c r =>
  unfold Wx
  simp only [List.length_cons, Q5y, h, List.isEmpty_cons, Bool.false_eq_true, if_false]
  exact Qej _ _ _ (by simp) (by simp)
theorem Q4o : ∀ (k : Nat) (s : List UInt8), (∀ b ∈ s.take k, b < 128) → Wx s = Wx (s.drop k)
 | 0, s, _ => by simp
 | k + 1, [], _ => by simp
 | k + 1, c :: r, h => by
  have hc : c < 128 := h c (by simp)
  have h1 : cpN (c :: r) = 1 := by simp only [cpN]; rw [if_pos (by exact hc)]
  rw [Q3h (c :: r) 0 h1]
  simpa using Q4o k r (fun b hb => h b (by simp [hb]))
def Q96 (s : List UInt8) : Bool := s.all fun b => decide (b.toNat < 128)
def Q9f (k n : Int) : Bool := Q3s n (Ut k).1 (Ut k).2 && (k != 16 || Qok n)
def Qqg (k : Int) (t : List UInt8) : Int := if k = 20 then (if Wx t then 0 else 6) else if k = 21 then (if Q96 t then 0 else 6) else 0
def Vn (v : Q0) : Int :=
 if v.Kind < 1 ∨ 21 < v.Kind then 8
 else if Q9f v.Kind v.N' = false ∨ v.Items ≠ [] then 2
 else if Q2k v.Kind = false then (if v.Text ≠ [] then 2 else 0)
 else if (v.Kind = 15 ∨ v.Kind = 18) ∧ v.Text.length ≠ 16 then 2
 else if 1048576 < v.Text.length then 4 else Qqg v.Kind v.Text
def Q1a (c : X5) (v : Q0) : Bool :=
 if c.Code = 65 then decide (v.N' = 1) else if c.Sized then decide (c.Width = 4 ∨ v.Text.length ≤ 255)
 else if c.Width = 0 then decide (v.N' = 0) else if c.Width = 1 then Q3s v.N' 8 (Ut c.Kind).2 else true
def Jb (code : Int) (v : Q0) : Bool := ofB code && decide ((ofS code).Kind = v.Kind) && decide (Vn v = 0) && Q1a (ofS code) v
def J1 (c : X5) (v : Q0) : List UInt8 :=
 if c.Sized then V8 v.Text.length c.Width.toNat ++ v.Text else if c.Width = 16 then v.Text else V8 v.N'.toNat c.Width.toNat
def Qpd (code : Int) (v : Q0) : List UInt8 × Int :=
 if Vn v ≠ 0 then ([], Vn v) else if Jb code v = false then ([], 2) else (J1 (ofS code) v, 0)
def Gc (c : X5) (n : Int) : Int := if (Ut c.Kind).2 = true ∧ 0 < c.Width ∧ 2 ^ (8 * c.Width.toNat - 1) ≤ n then n + (18446744073709551616 - 2 ^ (8 * c.Width.toNat)) else n
def Gg : Q0 := ⟨0, 0, [], []⟩
def Ql9 (v : Q0) (n : Int) : Q0 × Int × Int := if Vn v = 0 then (v, n, 0) else (Gg, 0, if Vn v = 2 then 5 else Vn v)
def Q7l (code : Int) (s : List UInt8) : Q0 × Int × Int :=
 if ofB code = false ∨ (ofS code).Items = true then (Gg, 0, 8)
 else if (s.length : Int) < (ofS code).Width then (Gg, 0, 3)
 else if (ofS code).Sized = true then
  if s.length - (ofS code).Width.toNat < Vj (s.take (ofS code).Width.toNat) then (Gg, 0, 3)
  else Ql9 ⟨(ofS code).Kind, 0, (s.drop (ofS code).Width.toNat).take (Vj (s.take (ofS code).Width.toNat)), []⟩ ((ofS code).Width + Vj (s.take (ofS code).Width.toNat))
 else if (ofS code).Width = 16 then Ql9 ⟨(ofS code).Kind, 0, s.take 16, []⟩ 16
 else if (ofS code).Code = 65 then Ql9 ⟨(ofS code).Kind, 1, [], []⟩ 0
 else Ql9 ⟨(ofS code).Kind, Gc (ofS code) (Vj (s.take (ofS code).Width.toNat)), [], []⟩ (ofS code).Width
end
end Go.Av
namespace Go.Av
noncomputable section
open Go.Proofs
set_option maxRecDepth 100000
def Vk : List UInt8 → Nat
 | [] => 0
 | b :: r => b.toNat + 256 * Vk r
theorem Qgz : ∀ (s : List UInt8) (k : Nat), s.length ≤ k → Vk s < 256 ^ k
 | [], k, _ => Nat.pow_pos (by omega)
 | b :: r, 0, h => by simp at h
 | b :: r, k + 1, h => by
  have h1 := Qgz r k (by simpa using h)
  have h2 : b.toNat < 256 := b.toNat_lt
  rw [Vk, Nat.pow_succ]
  omega
theorem Q8r (a b : Nat) (n m : Nat) (ha : a < 2 ^ n) (hb : b < 2 ^ m) (hn : n + m ≤ 64) :
  IntKind.u64.wrap (((BitVec.ofInt IntKind.u64.bits (a : Int) ||| BitVec.ofInt IntKind.u64.bits (IntKind.u64.wrap ((b : Int) * 2 ^ min n IntKind.u64.bits))).toNat : Nat) : Int) = ((a + 2 ^ n * b : Nat) : Int) := by
 have h64 : IntKind.u64.bits = 64 := rfl
 have hw : ∀ z : Int, IntKind.u64.wrap z = z % 18446744073709551616 := fun z => by simp [IntKind.wrap, IntKind.bits, IntKind.signed]
 have hnn : min n 64 = n := by omega
 have hp : 2 ^ n * b < 2 ^ 64 := by
  calc 2 ^ n * b < 2 ^ n * 2 ^ m := Nat.mul_lt_mul_of_pos_left hb (Nat.two_pow_pos n)
   _ = 2 ^ (n + m) := (Nat.pow_add 2 n m).symm
   _ ≤ 2 ^ 64 := Nat.pow_le_pow_right (by omega) hn
 have ha64 : a < 2 ^ 64 := Nat.lt_of_lt_of_le ha (Nat.pow_le_pow_right (by omega) (by omega))
 have e1 : ((b : Int) * 2 ^ n) = ((2 ^ n * b : Nat) : Int) := by push_cast; exact Int.mul_comm _ _
 rw [h64, hnn, e1, hw, hw]
 have e2 : ((2 ^ n * b : Nat) : Int) % 18446744073709551616 = ((2 ^ n * b : Nat) : Int) := by
  rw [Int.emod_eq_of_lt (by omega) (by have : (2 : Nat) ^ 64 = 18446744073709551616 := rfl; omega)]
 rw [e2, BitVec.ofInt_natCast, BitVec.ofInt_natCast, BitVec.toNat_or, BitVec.toNat_ofNat, BitVec.toNat_ofNat, Nat.mod_eq_of_lt ha64, Nat.mod_eq_of_lt hp]
 have e3 : a ||| 2 ^ n * b = a + 2 ^ n * b := by
  have := Nat.shiftLeft_add_eq_or_of_lt ha b
  rw [Nat.shiftLeft_eq, Nat.mul_comm] at this
  rw [Nat.or_comm, ← this, Nat.add_comm]
 rw [e3]
 have e4 : a + 2 ^ n * b < 18446744073709551616 := by
  have hb2 : b + 1 ≤ 2 ^ m := hb
  have : 2 ^ n * (b + 1) ≤ 2 ^ n * 2 ^ m := Nat.mul_le_mul_left _ hb2
  rw [← Nat.pow_add] at this
  have h5 : 2 ^ (n + m) ≤ 2 ^ 64 := Nat.pow_le_pow_right (by omega) hn
  rw [Nat.mul_add, Nat.mul_one] at this
  have : (2 : Nat) ^ 64 = 18446744073709551616 := rfl
  omega
 rw [Int.emod_eq_of_lt (by omega) (by omega)]
theorem Qoh (b : UInt8) : IntKind.u64.wrap ((b.toNat : Nat) : Int) = ((b.toNat : Nat) : Int) := by
 have := b.toNat_lt
 simp only [IntKind.wrap, IntKind.bits, IntKind.signed]
 simp
 omega
theorem Qrh (N : Nat) (b0 b1 b2 b3 b4 b5 b6 b7 : UInt8) (r : List UInt8) : Qj N (b0 :: b1 :: b2 :: b3 :: b4 :: b5 :: b6 :: b7 :: r) = some (Vk [b0, b1, b2, b3, b4, b5, b6, b7] : Nat) := by
 have l0 := b0.toNat_lt; have l1 := b1.toNat_lt; have l2 := b2.toNat_lt; have l3 := b3.toNat_lt
 have l4 := b4.toNat_lt; have l5 := b5.toNat_lt; have l6 := b6.toNat_lt; have l7 := b7.toNat_lt
 show some _ = some _
 simp only [orI, Q0d, Qoh]
 have t8 : Int.toNat 8 = 8 := rfl
 have t16 : Int.toNat 16 = 16 := rfl
 have t24 : Int.toNat 24 = 24 := rfl
 have t32 : Int.toNat 32 = 32 := rfl
 have t40 : Int.toNat 40 = 40 := rfl
 have t48 : Int.toNat 48 = 48 := rfl
 have t56 : Int.toNat 56 = 56 := rfl
 rw [t8, t16, t24, t32, t40, t48, t56]
 rw [Q8r b0.toNat b1.toNat 8 8 l0 l1 (by omega)]
 rw [Q8r _ b2.toNat 16 8 (by omega) l2 (by omega)]
 rw [Q8r _ b3.toNat 24 8 (by omega) l3 (by omega)]
 rw [Q8r _ b4.toNat 32 8 (by omega) l4 (by omega)]
 rw [Q8r _ b5.toNat 40 8 (by omega) l5 (by omega)]
 rw [Q8r _ b6.toNat 48 8 (by omega) l6 (by omega)]
 rw [Q8r _ b7.toNat 56 8 (by omega) l7 (by omega)]
 simp only [Vk, Option.some.injEq]
 omega
theorem Gp (N : Nat) (s : List UInt8) (h : 8 ≤ s.length) : Qj N s = some ((Vk (s.take 8) : Nat) : Int) := by
 match s, h with
 | b0 :: b1 :: b2 :: b3 :: b4 :: b5 :: b6 :: b7 :: r, _ => exact Qrh N b0 b1 b2 b3 b4 b5 b6 b7 r
theorem Qdi : ∀ (s : List UInt8) (m : Nat), m = Vk (List.replicate s.length 128) → (Vk s &&& m = 0 ↔ ∀ b ∈ s, b < 128)
 | [], m, h => by subst h; simp [Vk]
 | b :: r, m, h => by
  have ih := Qdi r _ rfl
  have hb0 : ∀ n, n < 256 → (n &&& 128 = 0 ↔ n < 128) := by decide
  have hb : ∀ c : UInt8, c.toNat &&& 128 = 0 ↔ c < 128 := fun c => (hb0 c.toNat c.toNat_lt).trans Iff.rfl
  rw [List.length_cons, List.replicate_succ, Vk] at h
  generalize Vk (List.replicate r.length 128) = q at h ih
  have e1 : (128 : UInt8).toNat = 128 := rfl
  rw [e1] at h
  have key : ∀ z : Nat, z = 0 ↔ z % 2 ^ 8 = 0 ∧ z / 2 ^ 8 = 0 := fun z => by omega
  have hlt := b.toNat_lt
  rw [Vk, h, key, Nat.and_mod_two_pow, Nat.and_div_two_pow]
  have d1 : (b.toNat + 256 * Vk r) % 2 ^ 8 = b.toNat := by omega
  have d2 : (128 + 256 * q) % 2 ^ 8 = 128 := by omega
  have d3 : (b.toNat + 256 * Vk r) / 2 ^ 8 = Vk r := by omega
  have d4 : (128 + 256 * q) / 2 ^ 8 = q := by omega
  rw [d1, d2, d3, d4, hb, ih]
  simp
theorem Vv (n : Nat) (h : n < 18446744073709551616) : IntKind.u64.wrap (n : Int) = n := by
 simp only [IntKind.wrap, IntKind.bits, IntKind.signed]
 simp; omega
theorem Q24 (a b : Nat) (ha : a < 18446744073709551616) (hb : b < 18446744073709551616) : Q13 .u64 (a : Int) (b : Int) = ((a &&& b : Nat) : Int) := by
 have hl : a &&& b ≤ a := Nat.and_le_left
 have h64 : IntKind.u64.bits = 64 := rfl
 have p64 : (2 : Nat) ^ 64 = 18446744073709551616 := rfl
 simp only [Q13]
 rw [h64, BitVec.ofInt_natCast, BitVec.ofInt_natCast, BitVec.toNat_and, BitVec.toNat_ofNat, BitVec.toNat_ofNat, Nat.mod_eq_of_lt (by omega), Nat.mod_eq_of_lt (by omega), Vv _ (by omega)]
theorem Q9c (a b : Nat) (ha : a < 18446744073709551616) (hb : b < 18446744073709551616) : orI .u64 (a : Int) (b : Int) = ((a ||| b : Nat) : Int) ∧ (a ||| b) < 18446744073709551616 := by
 have h64 : IntKind.u64.bits = 64 := rfl
 have p64 : (2 : Nat) ^ 64 = 18446744073709551616 := rfl
 have hl : a ||| b < 2 ^ 64 := Nat.or_lt_two_pow (by omega) (by omega)
 simp only [orI]
 rw [h64, BitVec.ofInt_natCast, BitVec.ofInt_natCast, BitVec.toNat_or, BitVec.toNat_ofNat, BitVec.toNat_ofNat, Nat.mod_eq_of_lt (by omega), Nat.mod_eq_of_lt (by omega), Vv _ (by omega)]
 exact ⟨rfl, by omega⟩
theorem Qcx (a b m : Nat) : (a ||| b) &&& m = 0 ↔ a &&& m = 0 ∧ b &&& m = 0 := by
 rw [Nat.and_or_distrib_right]
 constructor
 ·intro h
  have h1 : a &&& m ≤ (a &&& m) ||| (b &&& m) := Nat.left_le_or
  have h2 : b &&& m ≤ (a &&& m) ||| (b &&& m) := Nat.right_le_or
  omega
 ·rintro ⟨h1, h2⟩; rw [h1, h2]; rfl
theorem Q4c (s : List UInt8) : Vk (s.take 8) < 18446744073709551616 := by
 have := Qgz (s.take 8) 8 (by simp; omega)
 simpa using this
def M8 : Nat := 9259542123273814144
theorem Qua (s : List UInt8) (h : 8 ≤ s.length) : Vk (s.take 8) &&& M8 = 0 ↔ ∀ b ∈ s.take 8, b < 128 := Qdi _ _ (by rw [List.length_take, Nat.min_eq_left h]; rfl)
theorem Qq7 (s : List UInt8) (h : 8 ≤ s.length) (hm : Vk (s.take 8) &&& M8 = 0) : Wx s = Wx (s.drop 8) := Q4o 8 s ((Qua s h).1 hm)
theorem Qtu (s : List UInt8) : (Q13 .u64 ((Vk (s.take 8) : Nat) : Int) 9259542123273814144 = 0) = (Vk (s.take 8) &&& M8 = 0) := by
 have h1 := Q4c s
 rw [show (9259542123273814144 : Int) = ((M8 : Nat) : Int) from rfl, Q24 _ _ h1 (by decide)]
 apply propext; omega
theorem Qu2 (s t : List UInt8) : (Q13 .u64 (orI .u64 ((Vk (s.take 8) : Nat) : Int) ((Vk (t.take 8) : Nat) : Int)) 9259542123273814144 = 0) = (Vk (s.take 8) &&& M8 = 0 ∧ Vk (t.take 8) &&& M8 = 0) := by
 obtain ⟨h1, h2⟩ := Q9c _ _ (Q4c s) (Q4c t)
 rw [h1, show (9259542123273814144 : Int) = ((M8 : Nat) : Int) from rfl, Q24 _ _ h2 (by decide)]
 rw [← Qcx]
 apply propext; omega
theorem Qu0 (s t u v : List UInt8) : (Q13 .u64 (orI .u64 (orI .u64 ((Vk (s.take 8) : Nat) : Int) ((Vk (t.take 8) : Nat) : Int)) (orI .u64 ((Vk (u.take 8) : Nat) : Int) ((Vk (v.take 8) : Nat) : Int))) 9259542123273814144 = 0) =
  (Vk (s.take 8) &&& M8 = 0 ∧ Vk (t.take 8) &&& M8 = 0 ∧ Vk (u.take 8) &&& M8 = 0 ∧ Vk (v.take 8) &&& M8 = 0) := by
 obtain ⟨h1, h2⟩ := Q9c _ _ (Q4c s) (Q4c t)
 obtain ⟨h3, h4⟩ := Q9c _ _ (Q4c u) (Q4c v)
 obtain ⟨h5, h6⟩ := Q9c _ _ h2 h4
 rw [h1, h3, h5, show (9259542123273814144 : Int) = ((M8 : Nat) : Int) from rfl, Q24 _ _ h6 (by decide)]
 rw [show (Vk (s.take 8) &&& M8 = 0 ∧ Vk (t.take 8) &&& M8 = 0 ∧ Vk (u.take 8) &&& M8 = 0 ∧ Vk (v.take 8) &&& M8 = 0) = ((Vk (s.take 8) ||| Vk (t.take 8) ||| (Vk (u.take 8) ||| Vk (v.take 8))) &&& M8 = 0) by
  rw [Qcx, Qcx, Qcx]; apply propext; simp only [and_assoc]]
 apply propext; omega
theorem Qtb (N : Nat) (k0 : List UInt8 → Option Bool) : ∀ (n : Nat) (s : List UInt8), s.length < n → (∀ t, t.length ≤ s.length → k0 t = some (Wx t)) → Zb N k0 n s = some (Wx s)
 | 0, s, h, _ => by omega
 | n + 1, s, h, hk => by
  simp only [Zb, Qa, Q3q, Va, List.take_length, Nat.ble_eq, Bool.and_eq_true, Nat.le_refl, and_true]
  by_cases hl : (s.length : Int) > 32
  ·rw [if_pos hl, Gp N s (by omega)]
   simp only [Option.bind_some]
   rw [if_pos (by omega), Gp N _ (by rw [List.length_drop]; omega)]
   simp only [Option.bind_some]
   rw [if_pos (by omega), Gp N _ (by rw [List.length_drop]; omega)]
   simp only [Option.bind_some]
   rw [if_pos (by omega), Gp N _ (by rw [List.length_drop]; omega)]
   simp only [Option.bind_some, Qu0]
   split
   ·rename_i hm
    obtain ⟨m1, m2, m3, m4⟩ := hm
    rw [if_pos (by omega), Qtb N k0 n (s.drop 32) (by rw [List.length_drop]; omega) (fun t ht => hk t (by rw [List.length_drop] at ht; omega))]
    have e1 := Qq7 s (by omega) m1
    have e2 := Qq7 (s.drop 8) (by rw [List.length_drop]; omega) m2
    rw [List.drop_drop] at e2
    have e3 := Qq7 (s.drop 16) (by rw [List.length_drop]; omega) m3
    rw [List.drop_drop] at e3
    have e4 := Qq7 (s.drop 24) (by rw [List.length_drop]; omega) m4
    rw [List.drop_drop] at e4
    rw [e1, e2, e3, e4]
   ·exact hk s (Nat.le_refl _)
  ·rw [if_neg hl]; exact hk s (Nat.le_refl _)
def Qd4 (n : Nat) : Nat := Go.Pinned.utf8FirstZ.getD n 0
theorem Qr3 (n : Nat) (h : n < 256) : idx gtab0 (n : Int) = some (Qd4 n : Int) := by
 have hl : Go.Pinned.utf8FirstZ.length = 256 := by rfl
 rw [X4, gtab0, List.getElem?_map, Qd4, List.getD_eq_getElem?_getD, List.getElem?_eq_getElem (by omega)]
 rfl
def Qus (n : Nat) : Bool := (Qd4 n == 241 && (decide (n < 194) || decide (244 < n))) || (Qd4 n == 2 && decide (194 ≤ n) && decide (n ≤ 223)) || (Qd4 n == 19 && n == 224) || (Qd4 n == 3 && decide (225 ≤ n) && decide (n ≤ 239) && n != 237) || (Qd4 n == 35 && n == 237) ||
  (Qd4 n == 52 && n == 240) || (Qd4 n == 4 && decide (241 ≤ n) && decide (n ≤ 243)) || (Qd4 n == 68 && n == 244)
set_option maxRecDepth 100000 in
theorem Qr4 : ((List.range 256).all fun n => decide (n < 128) || Qus n) = true := by decide +kernel
theorem cls (n : Nat) (h : n < 256) (h2 : 128 ≤ n) : (Qd4 n = 241 ∧ (n < 194 ∨ 244 < n)) ∨ (Qd4 n = 2 ∧ 194 ≤ n ∧ n ≤ 223) ∨ (Qd4 n = 19 ∧ n = 224) ∨ (Qd4 n = 3 ∧ 225 ≤ n ∧ n ≤ 239 ∧ n ≠ 237) ∨ (Qd4 n = 35 ∧ n = 237) ∨
  (Qd4 n = 52 ∧ n = 240) ∨ (Qd4 n = 4 ∧ 241 ≤ n ∧ n ≤ 243) ∨ (Qd4 n = 68 ∧ n = 244) := by
 have := List.all_eq_true.1 Qr4 n (by simpa using h)
 simp only [Bool.or_eq_true, decide_eq_true_eq] at this
 rcases this with h3 | h3
 ·omega
 ·simp only [Qus, Bool.or_eq_true, Bool.and_eq_true, beq_iff_eq, decide_eq_true_eq, bne_iff_ne, ne_eq] at h3
  rcases h3 with ((((((h | h) | h) | h) | h) | h) | h) | h
  ·exact .inl h
  ·exact .inr (.inl ⟨h.1.1, h.1.2, h.2⟩)
  ·exact .inr (.inr (.inl h))
  ·exact .inr (.inr (.inr (.inl ⟨h.1.1.1, h.1.1.2, h.1.2, h.2⟩)))
  ·exact .inr (.inr (.inr (.inr (.inl h))))
  ·exact .inr (.inr (.inr (.inr (.inr (.inl h)))))
  ·exact .inr (.inr (.inr (.inr (.inr (.inr (.inl ⟨h.1.1, h.1.2, h.2⟩))))))
  ·exact .inr (.inr (.inr (.inr (.inr (.inr (.inr h))))))
theorem Qsh (N n : Nat) (c : UInt8) (r : List UInt8) (hc : c.toNat < 128) (_hn : r.length < n) (hN : r.length < N) (ih : ∀ t, t.length ≤ r.length → Q4 N n t = some (Wx t)) :
  Q4 N (n + 1) (c :: r) = some (Wx (c :: r)) := by
 have hstep : Wx (c :: r) = Wx r := Q4o 1 (c :: r) (fun b hb => by simp at hb; subst hb; exact hc)
 rw [hstep]
 simp only [Q4, Qa, Q3q, Va, Vg, List.take_length, Nat.ble_eq, Bool.and_eq_true, Nat.le_refl, and_true]
 rw [if_pos (by simp only [List.length_cons]; omega), show idx (c :: r) 0 = some c from rfl]
 simp only [Option.bind_some]
 rw [if_pos (by omega), if_pos (by simp)]
 simp only [List.drop_one, List.tail_cons]
 by_cases h8 : (r.length : Int) > 8
 ·rw [if_pos h8, Gp N r (by omega)]
  simp only [Option.bind_some, Qtu]
  split
  ·rename_i hm
   rw [Qq7 r (by omega) hm, if_pos (by omega)]
   split
   ·rename_i h16
    rw [Gp N _ (by omega)]
    simp only [Option.bind_some]
    rw [if_pos (by omega), Gp N _ (by simp only [List.length_drop] at h16 ⊢; omega)]
    simp only [Option.bind_some, Qu2]
    split
    ·rename_i hm2
     rw [if_pos (by omega), Qtb N _ N _ (by simp only [List.length_drop]; omega) (fun t ht => ih t (by simp only [List.length_drop] at ht; omega))]
     rw [Qq7 (r.drop 8) (by simp only [List.length_drop] at h16 ⊢; omega) hm2.1, Qq7 ((r.drop 8).drop 8) (by simp only [List.length_drop] at h16 ⊢; omega) hm2.2, List.drop_drop (l := r.drop 8)]
    ·exact ih _ (by simp only [List.length_drop]; omega)
   ·exact ih _ (by simp only [List.length_drop]; omega)
  ·exact ih _ (Nat.le_refl _)
 ·rw [if_neg h8]; exact ih _ (Nat.le_refl _)
end
end Go.Av
namespace Go.Av
noncomputable section
open Go.Proofs
set_option maxRecDepth 100000
theorem Qir {s : List UInt8} {i lo hi : Nat} {b : UInt8} (h : s[i]? = some b) (h1 : lo ≤ b.toNat) (h2 : b.toNat ≤ hi) : inB s i lo hi = true := by simp [inB, h, h1, h2]
theorem Q7q {s : List UInt8} {i lo hi : Nat} {b : UInt8} (h : s[i]? = some b) (h1 : ¬ (lo ≤ b.toNat ∧ b.toNat ≤ hi)) : inB s i lo hi = false := by simp only [inB, h, decide_eq_false h1]
theorem Qj7 {s : List UInt8} {i lo hi : Nat} (h : s[i]? = none) : inB s i lo hi = false := by simp [inB, h]
theorem Qrd {X : List UInt8 → Option Bool} (c : UInt8) (r : List UInt8) (lo hi : Int) (lo' hi' : Nat) (e1 : lo = lo') (e2 : hi = hi') (hX : ∀ t, t.length ≤ r.length → X t = some (Wx t))
  (hcp : cpN (c :: r) = if inB (c :: r) 1 lo' hi' then 2 else 0) :
  (if ((c :: r).length : Int) < 2 then some false else (idx (c :: r) 1).bind fun b => if (b.toNat : Int) < lo then some false else (idx (c :: r) 1).bind fun b2 => if hi < (b2.toNat : Int) then some false else
   if 2 ≤ (c :: r).length then X ((c :: r).drop 2) else none) = some (Wx (c :: r)) := by
 subst e1 e2
 have bad : cpN (c :: r) = 0 → some false = some (Wx (c :: r)) := fun h => by rw [Q5m _ (by simp) h]
 match r, hX, hcp, bad with
 | [], hX, hcp, bad =>
  rw [if_pos (by simp)]
  exact bad (by rw [hcp, Qj7 (by simp)]; rfl)
 | d :: t, hX, hcp, bad =>
  rw [if_neg (by simp only [List.length_cons]; omega), show idx (c :: d :: t) 1 = some d from rfl]
  simp only [Option.bind_some]
  by_cases h1 : (d.toNat : Int) < lo'
  ·rw [if_pos h1]; exact bad (by rw [hcp, Q7q (b := d) rfl (by omega)]; rfl)
  rw [if_neg h1]
  by_cases h2 : (hi' : Int) < d.toNat
  ·rw [if_pos h2]; exact bad (by rw [hcp, Q7q (b := d) rfl (by omega)]; rfl)
  rw [if_neg h2, if_pos (by simp)]
  have hc : cpN (c :: d :: t) = 2 := by rw [hcp, Qir (b := d) rfl (by omega) (by omega)]; rfl
  rw [Q3h _ 1 hc]
  exact hX _ (by simp)
theorem Qg4 {X : List UInt8 → Option Bool} (c : UInt8) (r : List UInt8) (lo hi : Int) (lo' hi' : Nat) (e1 : lo = lo') (e2 : hi = hi') (hX : ∀ t, t.length ≤ r.length → X t = some (Wx t))
  (hcp : cpN (c :: r) = if inB (c :: r) 1 lo' hi' && inB (c :: r) 2 128 191 then 3 else 0) :
  (if ((c :: r).length : Int) < 3 then some false else (idx (c :: r) 1).bind fun b => if (b.toNat : Int) < lo then some false else (idx (c :: r) 1).bind fun b2 => if hi < (b2.toNat : Int) then some false else
   (idx (c :: r) 2).bind fun b3 => if (b3.toNat : Int) < 128 then some false else (idx (c :: r) 2).bind fun b4 => if 191 < (b4.toNat : Int) then some false else
   if 3 ≤ (c :: r).length then X ((c :: r).drop 3) else none) = some (Wx (c :: r)) := by
 subst e1 e2
 have bad : cpN (c :: r) = 0 → some false = some (Wx (c :: r)) := fun h => by rw [Q5m _ (by simp) h]
 match r, hX, hcp, bad with
 | [], hX, hcp, bad =>
  rw [if_pos (by simp)]
  exact bad (by rw [hcp, Qj7 (by simp)]; rfl)
 | [d], hX, hcp, bad =>
  rw [if_pos (by simp)]
  exact bad (by rw [hcp, Qj7 (i := 2) (by simp)]; simp)
 | d :: e :: t, hX, hcp, bad =>
  rw [if_neg (by simp only [List.length_cons]; omega), show idx (c :: d :: e :: t) 1 = some d from rfl, show idx (c :: d :: e :: t) 2 = some e from rfl]
  simp only [Option.bind_some]
  by_cases h1 : (d.toNat : Int) < lo'
  ·rw [if_pos h1]; exact bad (by rw [hcp, Q7q (b := d) (i := 1) rfl (by omega)]; rfl)
  rw [if_neg h1]
  by_cases h2 : (hi' : Int) < d.toNat
  ·rw [if_pos h2]; exact bad (by rw [hcp, Q7q (b := d) (i := 1) rfl (by omega)]; rfl)
  rw [if_neg h2]
  by_cases h3 : (e.toNat : Int) < 128
  ·rw [if_pos h3]; exact bad (by rw [hcp, Q7q (b := e) (i := 2) rfl (by omega)]; simp)
  rw [if_neg h3]
  by_cases h4 : (191 : Int) < e.toNat
  ·rw [if_pos h4]; exact bad (by rw [hcp, Q7q (b := e) (i := 2) rfl (by omega)]; simp)
  rw [if_neg h4, if_pos (by simp)]
  have hc : cpN (c :: d :: e :: t) = 3 := by rw [hcp, Qir (b := d) (i := 1) rfl (by omega) (by omega), Qir (b := e) (i := 2) rfl (by omega) (by omega)]; rfl
  rw [Q3h _ 2 hc]
  exact hX _ (by simp; omega)
theorem Qfu {X : List UInt8 → Option Bool} (c : UInt8) (r : List UInt8) (lo hi : Int) (lo' hi' : Nat) (e1 : lo = lo') (e2 : hi = hi') (hX : ∀ t, t.length ≤ r.length → X t = some (Wx t))
  (hcp : cpN (c :: r) = if inB (c :: r) 1 lo' hi' && inB (c :: r) 2 128 191 && inB (c :: r) 3 128 191 then 4 else 0) :
  (if ((c :: r).length : Int) < 4 then some false else (idx (c :: r) 1).bind fun b => if (b.toNat : Int) < lo then some false else (idx (c :: r) 1).bind fun b2 => if hi < (b2.toNat : Int) then some false else
   (idx (c :: r) 2).bind fun b3 => if (b3.toNat : Int) < 128 then some false else (idx (c :: r) 2).bind fun b4 => if 191 < (b4.toNat : Int) then some false else
   (idx (c :: r) 3).bind fun b5 => if (b5.toNat : Int) < 128 then some false else (idx (c :: r) 3).bind fun b6 => if 191 < (b6.toNat : Int) then some false else
   if 4 ≤ (c :: r).length then X ((c :: r).drop 4) else none) = some (Wx (c :: r)) := by
 subst e1 e2
 have bad : cpN (c :: r) = 0 → some false = some (Wx (c :: r)) := fun h => by rw [Q5m _ (by simp) h]
 match r, hX, hcp, bad with
 | [], hX, hcp, bad =>
  rw [if_pos (by simp)]
  exact bad (by rw [hcp, Qj7 (by simp)]; rfl)
 | [d], hX, hcp, bad =>
  rw [if_pos (by simp)]
  exact bad (by rw [hcp, Qj7 (i := 2) (by simp)]; simp)
 | [d, e], hX, hcp, bad =>
  rw [if_pos (by simp)]
  exact bad (by rw [hcp, Qj7 (i := 3) (by simp)]; simp)
 | d :: e :: f :: t, hX, hcp, bad =>
  rw [if_neg (by simp only [List.length_cons]; omega), show idx (c :: d :: e :: f :: t) 1 = some d from rfl, show idx (c :: d :: e :: f :: t) 2 = some e from rfl, show idx (c :: d :: e :: f :: t) 3 = some f from rfl]
  simp only [Option.bind_some]
  by_cases h1 : (d.toNat : Int) < lo'
  ·rw [if_pos h1]; exact bad (by rw [hcp, Q7q (b := d) (i := 1) rfl (by omega)]; rfl)
  rw [if_neg h1]
  by_cases h2 : (hi' : Int) < d.toNat
  ·rw [if_pos h2]; exact bad (by rw [hcp, Q7q (b := d) (i := 1) rfl (by omega)]; rfl)
  rw [if_neg h2]
  by_cases h3 : (e.toNat : Int) < 128
  ·rw [if_pos h3]; exact bad (by rw [hcp, Q7q (b := e) (i := 2) rfl (by omega)]; simp)
  rw [if_neg h3]
  by_cases h4 : (191 : Int) < e.toNat
  ·rw [if_pos h4]; exact bad (by rw [hcp, Q7q (b := e) (i := 2) rfl (by omega)]; simp)
  rw [if_neg h4]
  by_cases h5 : (f.toNat : Int) < 128
  ·rw [if_pos h5]; exact bad (by rw [hcp, Q7q (b := f) (i := 3) rfl (by omega)]; simp)
  rw [if_neg h5]
  by_cases h6 : (191 : Int) < f.toNat
  ·rw [if_pos h6]; exact bad (by rw [hcp, Q7q (b := f) (i := 3) rfl (by omega)]; simp)
  rw [if_neg h6, if_pos (by simp)]
  have hc : cpN (c :: d :: e :: f :: t) = 4 := by rw [hcp, Qir (b := d) (i := 1) rfl (by omega) (by omega), Qir (b := e) (i := 2) rfl (by omega) (by omega), Qir (b := f) (i := 3) rfl (by omega) (by omega)]; rfl
  rw [Q3h _ 3 hc]
  exact hX _ (by simp; omega)
theorem Qsb : ∀ (N n : Nat) (s : List UInt8), s.length < n → s.length < N → Q4 N n s = some (Wx s)
 | N, 0, s, h, _ => by omega
 | N, n + 1, [], h1, h2 => by simp [Q4, Qa, Ql4]
 | N, n + 1, c :: r, h1, h2 => by
  have h1 : r.length < n := by simp at h1; omega
  have h2 : r.length < N := by simp at h2; omega
  have ih : ∀ t : List UInt8, t.length ≤ r.length → Q4 N n t = some (Wx t) := fun t ht => Qsb N n t (by omega) (by omega)
  by_cases hc : c.toNat < 128
  ·exact Qsh N n c r hc h1 h2 ih
  have hlt := c.toNat_lt
  simp only [Q4, Qa, Q3q, Va, Vg, List.take_length, Nat.ble_eq, Bool.and_eq_true, Nat.le_refl, and_true]
  rw [if_pos (by simp only [List.length_cons]; omega), show idx (c :: r) 0 = some c from rfl]
  simp only [Option.bind_some]
  rw [if_neg (by omega), Qr3 _ hlt]
  simp only [Option.bind_some]
  rcases cls c.toNat hlt (by omega) with ⟨e, h⟩ | ⟨e, h⟩ | ⟨e, h⟩ | ⟨e, h⟩ | ⟨e, h⟩ | ⟨e, h⟩ | ⟨e, h⟩ | ⟨e, h⟩
  ·rw [e, show (idx gtab1 (Q1g .u8 ((241 : Nat) : Int) 4)) = some (0, 0) from by decide]
   simp only [Option.bind_some]
   rw [if_neg (by decide), if_neg (by decide), if_neg (by decide), Q5m _ (by simp) (by simp only [cpN]; rw [if_neg hc, if_neg (by omega), if_neg (by omega), if_neg (by omega), if_neg (by omega), if_neg (by omega), if_neg (by omega), if_neg (by omega)])]
  ·rw [e, show (idx gtab1 (Q1g .u8 ((2 : Nat) : Int) 4)) = some (128, 191) from by decide]
   simp only [Option.bind_some]
   rw [if_pos (by decide)]
   exact Qrd c r 128 191 128 191 rfl rfl ih (by simp only [cpN]; rw [if_neg hc, if_pos h])
  ·rw [e, show (idx gtab1 (Q1g .u8 ((19 : Nat) : Int) 4)) = some (160, 191) from by decide]
   simp only [Option.bind_some]
   rw [if_neg (by decide), if_pos (by decide)]
   exact Qg4 c r 160 191 160 191 rfl rfl ih (by simp only [cpN]; rw [if_neg hc, if_neg (by omega), if_pos h])
  ·rw [e, show (idx gtab1 (Q1g .u8 ((3 : Nat) : Int) 4)) = some (128, 191) from by decide]
   simp only [Option.bind_some]
   rw [if_neg (by decide), if_pos (by decide)]
   exact Qg4 c r 128 191 128 191 rfl rfl ih (by simp only [cpN]; rw [if_neg hc, if_neg (by omega), if_neg (by omega), if_neg (by omega), if_pos (by omega)])
  ·rw [e, show (idx gtab1 (Q1g .u8 ((35 : Nat) : Int) 4)) = some (128, 159) from by decide]
   simp only [Option.bind_some]
   rw [if_neg (by decide), if_pos (by decide)]
   exact Qg4 c r 128 159 128 159 rfl rfl ih (by simp only [cpN]; rw [if_neg hc, if_neg (by omega), if_neg (by omega), if_pos h])
  ·rw [e, show (idx gtab1 (Q1g .u8 ((52 : Nat) : Int) 4)) = some (144, 191) from by decide]
   simp only [Option.bind_some]
   rw [if_neg (by decide), if_neg (by decide), if_pos (by decide)]
   exact Qfu c r 144 191 144 191 rfl rfl ih (by simp only [cpN]; rw [if_neg hc, if_neg (by omega), if_neg (by omega), if_neg (by omega), if_neg (by omega), if_pos h])
  ·rw [e, show (idx gtab1 (Q1g .u8 ((4 : Nat) : Int) 4)) = some (128, 191) from by decide]
   simp only [Option.bind_some]
   rw [if_neg (by decide), if_neg (by decide), if_pos (by decide)]
   exact Qfu c r 128 191 128 191 rfl rfl ih (by simp only [cpN]; rw [if_neg hc, if_neg (by omega), if_neg (by omega), if_neg (by omega), if_neg (by omega), if_neg (by omega), if_pos h])
  ·rw [e, show (idx gtab1 (Q1g .u8 ((68 : Nat) : Int) 4)) = some (128, 143) from by decide]
   simp only [Option.bind_some]
   rw [if_neg (by decide), if_neg (by decide), if_pos (by decide)]
   exact Qfu c r 128 143 128 143 rfl rfl ih (by simp only [cpN]; rw [if_neg hc, if_neg (by omega), if_neg (by omega), if_neg (by omega), if_neg (by omega), if_neg (by omega), if_neg (by omega), if_pos h])
theorem Qa1 (N : Nat) (s : List UInt8) (h : s.length < N) : Xf N s = some (Wx s) := Qsb N N s h h
end
end Go.Av
namespace Go.Av
noncomputable section
open Go.Proofs
set_option maxRecDepth 100000
theorem Qgj (s : List UInt8) (i : Nat) (hi : i < s.length) (h : s[i].toNat < 128) : Q96 (s.drop i) = Q96 (s.drop (i + 1)) := by
 rw [List.drop_eq_getElem_cons hi]
 simp only [Q96, List.all_cons, decide_eq_true h, Bool.true_and]
theorem Qk0 (N : Nat) (v : Q0) (hb : v.Text.length < 4611686018427387904) : ∀ (n i : Nat), v.Text.length - i < n → i ≤ v.Text.length →
  Wn N v n (i : Int) = some (if Q96 (v.Text.drop i) then 0 else 6)
 | 0, i, h, _ => by omega
 | n + 1, i, h, hi => by
  simp only [Wn, Qa, Vg, Qfj]
  by_cases h1 : i < v.Text.length
  ·rw [if_pos (by omega), X4, List.getElem?_eq_getElem h1]
   simp only [Option.bind_some]
   by_cases h2 : v.Text[i].toNat < 128
   ·rw [if_neg (by omega), Qu _ (by omega), Qgj _ _ h1 h2]
    exact_mod_cast Qk0 N v hb n (i + 1) (by omega) (by omega)
   ·rw [if_pos (by omega)]
    have : Q96 (v.Text.drop i) = false := by
     rw [List.drop_eq_getElem_cons h1]
     simp only [Q96, List.all_cons, decide_eq_false h2, Bool.false_and]
    simp [this]
  ·rw [if_neg (by omega), List.drop_of_length_le (by omega)]
   rfl
theorem Qqp (N : Nat) (v : Q0) (h : v.Text.length < N) (hb : v.Text.length < 4611686018427387904) : X6 N v = some (Qqg v.Kind v.Text) := by
 simp only [X6, Qa, Va, Qqg]
 split
 ·rw [Qa1 N _ h]
  simp only [Option.bind_some]
  cases Wx v.Text <;> rfl
 ·split
  ·have := Qk0 N v hb N 0 (by omega) (by omega)
   simpa using this
  ·rfl
theorem Qqz (v : Q0) : (((Q0.rows v.Items).length : Int) ≠ 0) = (v.Items ≠ []) := by
 rw [Zh]
 apply propext
 cases v.Items <;> simp; omega
theorem Qkj (k : Int) : 0 ≤ (Ut k).1 ∧ (Ut k).1 ≤ 64 ∧ ((Ut k).2 = true → 1 ≤ (Ut k).1) := by
 unfold Ut
 repeat' split
 all_goals simp
def okU (n : Int) : Prop := 0 ≤ n ∧ n < 18446744073709551616
theorem Q1i (N : Nat) (v : Q0) (hn : okU v.N') (h : v.Text.length < N) (hb : v.Text.length < 4611686018427387904) : Yc N v = some (Vn v) := by
 obtain ⟨b1, b2, b3⟩ := Qkj v.Kind
 simp only [Yc, Qa, Va, Vg, Q3q, Uk, Q0k, Qg7, Option.bind_some, Q91 N _ _ _ hn.1 hn.2 b1 b2 b3, Qdt N _ hn.1, Qjn, Qqp N v h hb, Qqz]
 unfold Vn
 by_cases h1 : v.Kind < 1
 ·rw [if_pos h1, if_pos (.inl h1)]
 rw [if_neg h1]
 by_cases h2 : v.Kind > 21
 ·rw [if_pos h2, if_pos (.inr h2)]
 rw [if_neg h2, if_neg (show ¬ (v.Kind < 1 ∨ 21 < v.Kind) by omega)]
 unfold Q9f
 generalize Q3s v.N' (Ut v.Kind).1 (Ut v.Kind).2 = fb
 cases fb
 ·simp
 simp only [Bool.not_true, Bool.false_eq_true, if_false, Bool.true_and]
 by_cases h16 : v.Kind = 16
 ·rw [if_pos h16]
  have e1 : (v.Kind != 16) = false := by simp [h16]
  have e2 : Q2k v.Kind = false := by rw [h16]; rfl
  rw [e1, e2]
  simp only [Bool.false_or, Bool.not_false, if_true]
  cases Qok v.N' with
  | false => simp
  | true =>
   simp only [Bool.not_true, Bool.false_eq_true, if_false]
   by_cases hi : v.Items = []
   ·simp only [hi, ne_eq, not_true_eq_false, if_false]
    simp only [Bool.true_eq_false, or_self, if_false]
    by_cases ht : v.Text = [] <;> simp [ht]
   ·simp [hi]
 ·rw [if_neg h16]
  have e1 : (v.Kind != 16) = true := by simp [h16]
  rw [e1]
  simp only [Bool.true_or, Bool.true_eq_false, false_or]
  have e3 : ((v.Text.length : Int) ≠ 16) = (v.Text.length ≠ 16) := by apply propext; omega
  have e4 : ((v.Text.length : Int) > 1048576) = (1048576 < v.Text.length) := by apply propext; omega
  simp only [e3, e4]
  by_cases hi : v.Items = []
  ·simp only [hi, ne_eq, not_true_eq_false, if_false]
   cases Q2k v.Kind with
   | false => by_cases ht : v.Text = [] <;> simp [ht]
   | true =>
    simp only [Bool.not_true, Bool.false_eq_true, if_false, Bool.true_eq_false]
    by_cases h15 : v.Kind = 15
    ·simp only [h15, if_true, true_or, true_and]
     by_cases hl : v.Text.length = 16 <;> simp [hl]
    ·by_cases h18 : v.Kind = 18
     ·simp only [h18, if_true, or_true, true_and]
      by_cases hl : v.Text.length = 16 <;> simp [hl]
     ·simp only [h15, h18, if_false, or_self, false_and]
      split <;> rfl
  ·simp [hi]
theorem Qq2 (N : Nat) (c : X5) (v : Q0) (hn : okU v.N') : Uu N c v = some (Q1a c v) := by
 simp only [Uu, Qa, Va, Q1a, Qg7, Option.bind_some]
 split
 ·rfl
 split
 ·split
  ·rename_i h; simp [h]
  ·rename_i h
   simp only [h, false_or, Option.some.injEq, Q9, decide_eq_decide]
   omega
 split
 ·rfl
 split
 ·rw [Q91 N _ _ _ hn.1 hn.2 (by omega) (by omega) (by intro _; omega)]; rfl
 ·rfl
theorem Ql8 (N : Nat) (code : Int) (v : Q0) (hn : okU v.N') (h : v.Text.length < N) (hb : v.Text.length < 4611686018427387904) : U0 N code v = some (Jb code v) := by
 simp only [U0, Qy, Qa, Va, Option.bind_some, Q1i N v hn h hb, Qq2 N _ v hn, Jb]
 cases ofB code
 ·simp
 simp only [if_true, Bool.true_and]
 by_cases h1 : (ofS code).Kind = v.Kind
 ·rw [if_pos h1, decide_eq_true h1]
  by_cases h2 : Vn v = 0
  ·rw [if_pos h2, decide_eq_true h2]; simp
  ·rw [if_neg h2, decide_eq_false h2]; simp
 ·rw [if_neg h1, decide_eq_false h1]; simp
theorem Qiw (k : Int) : (Xp k).length ≤ 4 := by
 by_cases h : k < 1 ∨ 25 < k
 ·rw [Q3a k h]; simp
 ·have hall : ((List.range 26).all fun k => decide ((Xp k).length ≤ 4)) = true := by decide +kernel
  have := List.all_eq_true.1 hall k.toNat (by simp; omega)
  rw [show ((k.toNat : Nat) : Int) = k by omega] at this
  simpa using this
end
end Go.Av
namespace Go.Av
noncomputable section
open Go.Proofs
set_option maxRecDepth 100000
theorem Q3c : ∀ (w n : Nat), V8 n (w + 1) = UInt8.ofNat (n / 256 ^ w % 256) :: V8 n w
 | 0, n => by simp [V8]
 | w + 1, n => by
  rw [V8, Q3c w (n / 256), V8, List.cons_append, Nat.div_div_eq_div_mul, Nat.pow_succ, Nat.mul_comm 256]
def Qrl (n : Nat) : Nat → List Int
 | 0 => []
 | w + 1 => ((n / 256 ^ w % 256 : Nat) : Int) :: Qrl n w
theorem Qgs (n : Nat) : ∀ w, (Qrl n w).map (fun n => UInt8.ofNat n.toNat) = V8 n w
 | 0 => rfl
 | w + 1 => by rw [Qrl, List.map_cons, Qgs n w, Q3c]; rfl
theorem Qrb (m : Nat) (x : Int) (t : List Int) : (List.replicate (m + 1) (0 : Int) ++ t).set m x = List.replicate m 0 ++ (x :: t) := by
 rw [List.replicate_succ', List.append_assoc, List.set_append_right _ _ (by simp)]
 simp
theorem Qu6 (x : Int) : IntKind.u8.wrap x = x % 256 := by simp [IntKind.wrap, IntKind.bits, IntKind.signed]
theorem Qc3 (x : Int) : IntKind.u64.wrap x = x % 18446744073709551616 := by simp [IntKind.wrap, IntKind.bits, IntKind.signed]
theorem Qpq (N n w : Nat) (hn : n < 18446744073709551616) (hw : w ≤ 8) : ∀ (k i : Nat), i ≤ w → w - i < k → V6 N (n : Int) (w : Int) k (i : Int) (List.replicate (w - i) 0 ++ Qrl n i) = some (V8 n w)
 | 0, i, h, h2 => by omega
 | k + 1, i, h, h2 => by
  have e1 : ifB (decide ((16 : Int) < (w : Int))) (16 : Int) (w : Int) = w := by rw [decide_eq_false (by omega)]; rfl
  simp only [V6, Qa, Vg, e1]
  by_cases hi : i < w
  ·rw [if_pos (by omega), if_pos (by omega)]
   have e2 : IntKind.i64.wrap (8 * (i : Int)) = ((8 * i : Nat) : Int) := by rw [Qu _ (by omega)]; push_cast; rfl
   have e3 : IntKind.u64.wrap ((8 * i : Nat) : Int) = ((8 * i : Nat) : Int) := Vv _ (by omega)
   have e4 : IntKind.i64.wrap (IntKind.i64.wrap ((w : Int) - 1) - (i : Int)) = ((w - i - 1 : Nat) : Int) := by
    rw [Qu ((w : Int) - 1) (by omega), Qu _ (by omega)]; omega
   rw [e2, e3, e4, if_pos (decide_eq_true (Int.natCast_nonneg _))]
   have hlen : (List.replicate (w - i) (0 : Int) ++ Qrl n i).length ≥ w - i := by simp
   rw [X4, List.getElem?_eq_getElem (by omega)]
   simp only [Option.bind_some]
   have e5 : IntKind.u8.wrap (Q1g .u64 (n : Int) ((8 * i : Nat) : Int)) = ((n / 256 ^ i % 256 : Nat) : Int) := by
    rw [Qu6]
    simp only [Q1g]
    have : min (((8 * i : Nat) : Int).toNat) IntKind.u64.bits = 8 * i := by simp [IntKind.bits]; omega
    rw [this, Int.fdiv_eq_ediv_of_nonneg _ (by have := two_pow_pos (8 * i); omega)]
    have e0 : (2 : Nat) ^ (8 * i) = 256 ^ i := Nat.pow_mul 2 8 i
    have e : ((2 : Int) ^ (8 * i)) = ((256 ^ i : Nat) : Int) := by rw [← e0]; push_cast; rfl
    rw [e]
    push_cast
    rfl
   rw [e5, show Int.toNat ((w - i - 1 : Nat) : Int) = w - i - 1 from rfl, Qu _ (by omega)]
   obtain ⟨m, hm⟩ : ∃ m, w - i = m + 1 := ⟨w - i - 1, by omega⟩
   have h3 := Qpq N n w hn hw k (i + 1) (by omega) (by omega)
   rw [show w - (i + 1) = m by omega, Qrl] at h3
   rw [hm, Nat.add_sub_cancel, Qrb]
   exact_mod_cast h3
  ·rw [if_neg (by omega)]
   have : i = w := by omega
   subst this
   rw [Nat.sub_self, List.replicate_zero, List.nil_append, Qgs]
theorem Q36 (N n w : Nat) (hn : n < 18446744073709551616) (hw : w ≤ 8) (hN : 10 < N) : Wb N (n : Int) (w : Int) = some (V8 n w) := by
 have e1 : ifB (decide ((16 : Int) < (w : Int))) (16 : Int) (w : Int) = w := by rw [decide_eq_false (by omega)]; rfl
 simp only [Wb, Qa, Q5n, e1]
 by_cases h0 : (w : Int) ≤ 0
 ·rw [if_pos h0]
  have : w = 0 := by omega
  subst this; rfl
 ·rw [if_neg h0, if_pos (by simp; omega)]
  have := Qpq N n w hn hw N 0 (by omega) (by omega)
  simpa [Qrl] using this
theorem Ql7 (a b : Nat) (ha : a < 72057594037927936) (hb : b < 256) : orI .u64 (Q0d .u64 (a : Int) 8) (IntKind.u64.wrap (b : Int)) = ((a * 256 + b : Nat) : Int) := by
 have e1 : Q0d .u64 (a : Int) 8 = ((a * 256 : Nat) : Int) := by
  simp only [Q0d]
  have : min (Int.toNat 8) IntKind.u64.bits = 8 := rfl
  rw [this, show ((a : Int) * 2 ^ 8) = ((a * 256 : Nat) : Int) by push_cast; rfl, Vv _ (by omega)]
 rw [e1, Vv b (by omega), (Q9c _ _ (by omega) (by omega)).1]
 have := Nat.shiftLeft_add_eq_or_of_lt (show b < 2 ^ 8 by omega) a
 rw [Nat.shiftLeft_eq] at this
 rw [← this]
theorem Ql2 (s : List UInt8) (i : Nat) (hi : i < s.length) : Vj (s.take (i + 1)) = Vj (s.take i) * 256 + s[i].toNat := by
 rw [List.take_succ_eq_append_getElem hi, Q64]
theorem Qln (N : Nat) (s : List UInt8) (hl : s.length ≤ 8) : ∀ (k i : Nat), i ≤ s.length → s.length - i < k → U2 N s k (Vj (s.take i) : Nat) (i : Int) = some ((Vj s : Nat) : Int)
 | 0, i, h, h2 => by omega
 | k + 1, i, h, h2 => by
  simp only [U2, Qa, Vg]
  by_cases hi : i < s.length
  ·rw [if_pos (by omega), X4, List.getElem?_eq_getElem hi]
   simp only [Option.bind_some]
   have h3 := Q27 (s.take i)
   have h4 : 256 ^ (s.take i).length ≤ 256 ^ 7 := Nat.pow_le_pow_right (by omega) (by rw [List.length_take]; omega)
   have h5 : (256 : Nat) ^ 7 = 72057594037927936 := rfl
   rw [Ql7 _ _ (by omega) s[i].toNat_lt, ← Ql2 s i hi, Qu _ (by omega)]
   exact_mod_cast Qln N s hl k (i + 1) (by omega) (by omega)
  ·rw [if_neg (by omega), List.take_of_length_le (by omega)]
theorem Q8s (N : Nat) (s : List UInt8) (hl : s.length ≤ 8) (hN : 10 < N) : J2 N s = some ((Vj s : Nat) : Int) := by
 simp only [J2, Qa, Q3q]
 rw [if_neg (by omega)]
 exact Qln N s hl N 0 (by omega) (by omega)
abbrev Q7z (s : List UInt8) : Prop := s.length < 4611686018427387904
theorem Q1u (N : Nat) (s : List UInt8) (i n : Nat) (hs : Q7z s) (hi : i ≤ s.length) (hn : n < 4611686018427387904) : Qg N ⟨s, i, 0⟩ (n : Int) =
  some (if n ≤ s.length - i then ((s.drop i).take n, ⟨s, ((i + n : Nat) : Int), 0⟩) else ([], ⟨s, i, 3⟩)) := by
 unfold Q7z at hs
 simp only [Qg, Wi, U3, Qa, Option.bind_some, Qfj, show Q9 .eql (0 : Int) 0 = true from rfl, Bool.not_true, Bool.false_eq_true, if_false]
 rw [if_pos (by omega), Qu _ (by omega)]
 simp only [Option.bind_some, Bool.not_eq_true']
 by_cases h : n ≤ s.length - i
 ·have e1 : Q9 .leq (n : Int) ((s.length : Int) - (i : Int)) = true := by rw [Q5n]; omega
  rw [e1, if_pos h, Qu _ (by omega)]
  simp only [Bool.true_eq_false, if_false]
  have e2 : ((i : Int) + (n : Int)) = ((i + n : Nat) : Int) := by push_cast; rfl
  rw [e2, if_pos (by simp), if_pos (by simp; omega), if_pos (by simp [Nat.ble_eq]; omega)]
  have e3 : ((i + n : Nat) : Int).toNat = i + n := rfl
  have e4 : (i : Int).toNat = i := rfl
  rw [e3, e4]
  rw [show (s.take (i + n)).drop i = (s.drop i).take n by rw [List.drop_take]; congr 1; omega]
 ·have e1 : Q9 .leq (n : Int) ((s.length : Int) - (i : Int)) = false := by
   have : ¬ (Q9 .leq (n : Int) ((s.length : Int) - (i : Int)) = true) := by rw [Q5n]; omega
   exact Bool.eq_false_iff.2 this
  rw [e1, if_neg h]
  simp
theorem Q47 (N : Nat) (s : List UInt8) (i : Nat) (e : Int) (hi : i ≤ s.length) : Qr N ⟨s, i, e⟩ = some (((s.length - i : Nat) : Int), ⟨s, i, e⟩) := by
 simp only [Qr, Qs, Qa]
 rw [if_pos (by simp), if_pos (by simp [Nat.ble_eq]; exact hi)]
 simp
theorem Q60 (N : Nat) (s : List UInt8) (w : Nat) (hs : Q7z s) (hw : w ≤ 8) (hN : 10 < N) : Qm N ⟨s, 0, 0⟩ (w : Int) =
  some (if w ≤ s.length then (((Vj (s.take w) : Nat) : Int), ⟨s, (w : Int), 0⟩) else (0, ⟨s, 0, 3⟩)) := by
 simp only [Qm]
 have := Q1u N s 0 w hs (by omega) (by omega)
 rw [show ((0 : Nat) : Int) = 0 from rfl] at this
 rw [this]
 simp only [Option.bind_some, Nat.sub_zero, List.drop_zero, Nat.zero_add]
 by_cases h : w ≤ s.length
 ·rw [if_pos h, if_pos h]
  simp only
  rw [Q8s N _ (by rw [List.length_take]; omega) hN]
  rfl
 ·rw [if_neg h, if_neg h]
  dsimp only
  rw [Q8s N _ (by simp) hN]
  rfl
end
end Go.Av
namespace Go.Av
noncomputable section
open Go.Proofs
set_option maxRecDepth 100000
def Qt2 (code : Int) (t : Int × Int × Int × Bool × Bool) : Bool :=
 decide (t.1 = code) && decide (1 ≤ t.2.1 ∧ t.2.1 ≤ 25) && (t.2.2.2.2 == decide (22 ≤ t.2.1)) &&
 (t.2.2.2.2 || (if t.2.2.2.1 then decide ((t.2.2.1 = 1 ∨ t.2.2.1 = 4) ∧ 19 ≤ t.2.1 ∧ t.2.1 ≤ 21 ∧ t.1 ≠ 65)
  else if t.2.2.1 = 16 then decide ((t.2.1 = 15 ∨ t.2.1 = 18) ∧ t.1 ≠ 65)
  else decide (Q2k t.2.1 = false) && decide (t.2.2.1 = 0 ∨ t.2.2.1 = 1 ∨ t.2.2.1 = 2 ∨ t.2.2.1 = 4 ∨ t.2.2.1 = 8) &&
   decide (t.1 = 65 → t.2.2.1 = 0 ∧ t.2.1 = 2) && decide (t.2.2.1 = 1 → (Ut t.2.1).1 ≤ 8 → (Ut t.2.1).2 = false ∨ (Ut t.2.1).1 = 8) && decide (2 ≤ t.2.2.1 → (Ut t.2.1).1 = 8 * t.2.2.1)))
theorem Qlz : ((List.range 40).all fun k => Qt2 (U6 k) (Xd k)) = true := by decide +kernel
structure Well (code : Int) (c : X5) : Prop where
 code : c.Code = code
 kind : 1 ≤ c.Kind ∧ c.Kind ≤ 25
 items : c.Items = decide (22 ≤ c.Kind)
 sized : c.Items = false → c.Sized = true → (c.Width = 1 ∨ c.Width = 4) ∧ 19 ≤ c.Kind ∧ c.Kind ≤ 21 ∧ c.Code ≠ 65
 wide : c.Items = false → c.Sized = false → c.Width = 16 → (c.Kind = 15 ∨ c.Kind = 18) ∧ c.Code ≠ 65
 num : c.Items = false → c.Sized = false → c.Width ≠ 16 → Q2k c.Kind = false ∧ (c.Width = 0 ∨ c.Width = 1 ∨ c.Width = 2 ∨ c.Width = 4 ∨ c.Width = 8) ∧ (c.Code = 65 → c.Width = 0 ∧ c.Kind = 2) ∧ (2 ≤ c.Width → (Ut c.Kind).1 = 8 * c.Width)
theorem Q6i (code : Int) (h : ofB code = true) : Well code (ofS code) := by
 have h1 : bsI code < 40 ∧ U6 (bsI code) = code := by simpa [ofB] using h
 have hw := List.all_eq_true.1 Qlz (bsI code) (by simpa using h1.1)
 rw [h1.2] at hw
 have e : ofT code = Xd (bsI code) := by unfold ofT; rw [if_pos h]
 rw [← e] at hw
 have es : ofS code = ⟨(ofT code).1, (ofT code).2.1, (ofT code).2.2.1, (ofT code).2.2.2.1, (ofT code).2.2.2.2⟩ := rfl
 rw [es]
 generalize ofT code = t at hw
 obtain ⟨c, k, w, s, i⟩ := t
 simp only [Qt2, Bool.and_eq_true, decide_eq_true_eq, beq_iff_eq] at hw
 obtain ⟨⟨⟨h1, h2⟩, h3⟩, h4⟩ := hw
 refine ⟨h1, h2, h3, ?_, ?_, ?_⟩ <;> intro hi hs <;> simp only at hi hs
 ·rw [hi, hs] at h4
  simpa using h4
 ·intro hw16
  simp only at hw16
  rw [hi, hs, if_pos hw16] at h4
  simpa using h4
 ·intro hw16
  simp only at hw16
  rw [hi, hs, if_neg hw16] at h4
  simp only [Bool.false_or, Bool.and_eq_true, decide_eq_true_eq, Bool.false_eq_true, if_false] at h4
  exact ⟨h4.1.1.1.1, h4.1.1.1.2, h4.1.1.2, h4.2⟩
theorem Qh2 (code : Int) (h : ofB code = false) : ofS code = ⟨0, 0, 0, false, false⟩ := by
 unfold ofS ofT
 rw [h]; rfl
theorem Vd {v : Q0} (h : Vn v = 0) : 1 ≤ v.Kind ∧ v.Kind ≤ 21 ∧ Q9f v.Kind v.N' = true ∧ v.Items = [] ∧ (Q2k v.Kind = false → v.Text = []) ∧ (v.Kind = 15 ∨ v.Kind = 18 → v.Text.length = 16) ∧ v.Text.length ≤ 1048576 := by
 unfold Vn at h
 split at h
 ·omega
 split at h
 ·omega
 rename_i h1 h2
 have hi : v.Items = [] := by
  apply Classical.byContradiction
  intro hn; exact h2 (.inr hn)
 have ho : Q9f v.Kind v.N' = true := by
  cases ho : Q9f v.Kind v.N' with
  | true => rfl
  | false => exact absurd (.inl ho) h2
 split at h
 ·split at h
  ·omega
  ·rename_i h3 h4
   have ht : v.Text = [] := by
    apply Classical.byContradiction
    intro hn; exact h4 hn
   refine ⟨by omega, by omega, ho, hi, fun _ => ht, fun hk => ?_, by rw [ht]; simp⟩
   rcases hk with hk | hk <;> rw [hk] at h3 <;> cases h3
 ·split at h
  ·omega
  split at h
  ·omega
  rename_i h3 h4 h5
  exact ⟨by omega, by omega, ho, hi, fun ht => absurd ht h3, fun hk => by
   apply Classical.byContradiction
   intro hn; exact h4 ⟨hk, hn⟩, by omega⟩
theorem Qf6 {k n : Int} (h : Q2k k = true) (hn : Q9f k n = true) (h0 : 0 ≤ n) : n = 0 := by
 unfold Q2k at h
 simp only [decide_eq_true_eq] at h
 have hb : Ut k = (0, false) := by
  rcases h with rfl | rfl | rfl | rfl | rfl <;> rfl
 simp only [Q9f, Bool.and_eq_true, hb, Q3s, Bool.false_eq_true, if_false, decide_eq_true_eq] at hn
 have := hn.1
 simp at this
 omega
theorem Qk1 {c : X5} {n : Int} {w : Nat} (hw : c.Width = w) (h148 : w = 1 ∨ w = 2 ∨ w = 4 ∨ w = 8) (hn : okU n) (hf : Q3s n (8 * w) (Ut c.Kind).2 = true) : Gc c ((n.toNat % 256 ^ w : Nat) : Int) = n := by
 obtain ⟨h0, h1⟩ := hn
 unfold Gc
 unfold Q3s s64 at hf
 cases hs : (Ut c.Kind).2
 ·rw [hs] at hf
  simp only [Bool.false_eq_true, if_false, decide_eq_true_eq] at hf
  simp only [Bool.false_eq_true, false_and, if_false]
  rcases h148 with rfl | rfl | rfl | rfl <;> simp at hf ⊢ <;> omega
 ·rw [hs] at hf
  simp only [if_true, decide_eq_true_eq] at hf
  simp only [true_and, hw]
  rcases h148 with rfl | rfl | rfl | rfl <;> simp at hf ⊢ <;> split at hf <;> (try split) <;> omega
theorem Qeq {c : X5} {n w : Nat} (hw : c.Width = w) (h148 : w = 1 ∨ w = 2 ∨ w = 4 ∨ w = 8) (hn : n < 256 ^ w) : okU (Gc c n) ∧ (Gc c n).toNat % 256 ^ w = n ∧ Q3s (Gc c n) (8 * w) (Ut c.Kind).2 = true := by
 unfold Gc okU Q3s s64
 cases hs : (Ut c.Kind).2
 ·simp only [Bool.false_eq_true, false_and, if_false]
  rcases h148 with rfl | rfl | rfl | rfl <;> simp at hn ⊢ <;> omega
 ·simp only [true_and, hw, if_true]
  rcases h148 with rfl | rfl | rfl | rfl <;> simp at hn ⊢ <;> split <;> refine ⟨by omega, by omega, ?_⟩ <;> (try split) <;> omega
theorem Qhe (N : Nat) (c : X5) (n w : Nat) (hw : c.Width = w) (hww : w = 0 ∨ w = 1 ∨ w = 2 ∨ w = 4 ∨ w = 8) (hn : n < 256 ^ w) : Ua N c (n : Int) = some (Gc c n) := by
 simp only [Ua, Qg7, Option.bind_some, Qa, Q3q, Gc]
 cases hs : (Ut c.Kind).2
 ·simp
 ·simp only [if_true, true_and, hw]
  rcases hww with rfl | hww
  ·simp
  rcases hww with rfl | rfl | rfl | rfl
  ·rw [if_pos (by omega), Qu (8 * ((1 : Nat) : Int)) (by omega), Qu _ (by omega), if_pos (by decide)]
   simp only [Nat.pow_one] at hn
   simp only [Q1g, Q0d, Qc3]
   simp only [Option.some.injEq]
   rw [show min (Int.toNat (64 - 8 * ((1 : Nat) : Int))) IntKind.u64.bits = 56 from rfl, show min (Int.toNat (64 - 8 * ((1 : Nat) : Int))) IntKind.i64.bits = 56 from rfl]
   simp only [IntKind.wrap, IntKind.bits, IntKind.signed]
   rw [Int.fdiv_eq_ediv_of_nonneg _ (by decide)]
   simp
   split <;> split <;> omega
  ·rw [if_pos (by omega), Qu (8 * ((2 : Nat) : Int)) (by omega), Qu _ (by omega), if_pos (by decide)]
   simp at hn
   simp only [Q1g, Q0d, Qc3]
   simp only [Option.some.injEq]
   rw [show min (Int.toNat (64 - 8 * ((2 : Nat) : Int))) IntKind.u64.bits = 48 from rfl, show min (Int.toNat (64 - 8 * ((2 : Nat) : Int))) IntKind.i64.bits = 48 from rfl]
   simp only [IntKind.wrap, IntKind.bits, IntKind.signed]
   rw [Int.fdiv_eq_ediv_of_nonneg _ (by decide)]
   simp
   split <;> split <;> omega
  ·rw [if_pos (by omega), Qu (8 * ((4 : Nat) : Int)) (by omega), Qu _ (by omega), if_pos (by decide)]
   simp at hn
   simp only [Q1g, Q0d, Qc3]
   simp only [Option.some.injEq]
   rw [show min (Int.toNat (64 - 8 * ((4 : Nat) : Int))) IntKind.u64.bits = 32 from rfl, show min (Int.toNat (64 - 8 * ((4 : Nat) : Int))) IntKind.i64.bits = 32 from rfl]
   simp only [IntKind.wrap, IntKind.bits, IntKind.signed]
   rw [Int.fdiv_eq_ediv_of_nonneg _ (by decide)]
   simp
   split <;> split <;> omega
  ·rw [if_pos (by omega), Qu (8 * ((8 : Nat) : Int)) (by omega), Qu _ (by omega), if_pos (by decide)]
   simp at hn
   simp only [Q1g, Q0d, Qc3]
   simp only [Option.some.injEq]
   rw [show min (Int.toNat (64 - 8 * ((8 : Nat) : Int))) IntKind.u64.bits = 0 from rfl, show min (Int.toNat (64 - 8 * ((8 : Nat) : Int))) IntKind.i64.bits = 0 from rfl]
   simp only [IntKind.wrap, IntKind.bits, IntKind.signed]
   rw [Int.fdiv_eq_ediv_of_nonneg _ (by decide)]
   simp
   split <;> omega
end
end Go.Av
namespace Go.Av
noncomputable section
open Go.Proofs
set_option maxRecDepth 100000
theorem Ju {code : Int} {v : Q0} (h : Jb code v = true) : ofB code = true ∧ (ofS code).Kind = v.Kind ∧ Vn v = 0 ∧ Q1a (ofS code) v = true := by
 simp only [Jb, Bool.and_eq_true, decide_eq_true_eq] at h
 exact ⟨h.1.1.1, h.1.1.2, h.1.2, h.2⟩
theorem Qsl : okU 0 := ⟨by decide, by decide⟩
theorem Qur : okU 1 := ⟨by decide, by decide⟩
inductive Qtz (c : X5) : Prop
 | sized (w : Nat) (hs : c.Sized = true) (hw : c.Width = w) (h : w = 1 ∨ w = 4) (hk : 19 ≤ c.Kind ∧ c.Kind ≤ 21) (hc : c.Code ≠ 65)
 | wide (hs : c.Sized = false) (hw : c.Width = 16) (hk : c.Kind = 15 ∨ c.Kind = 18) (hc : c.Code ≠ 65)
 | num (w : Nat) (hs : c.Sized = false) (hw : c.Width = w) (h : w = 0 ∨ w = 1 ∨ w = 2 ∨ w = 4 ∨ w = 8) (ht : Q2k c.Kind = false) (hc : c.Code = 65 → w = 0 ∧ c.Kind = 2) (hb : 2 ≤ w → (Ut c.Kind).1 = 8 * w)
theorem Well.shape {code : Int} {c : X5} (h : Well code c) (hi : c.Items = false) : Qtz c := by
 cases hs : c.Sized with
 | true =>
  obtain ⟨h1, h2, h3, h4⟩ := h.sized hi hs
  rcases h1 with h1 | h1
  ·exact .sized 1 hs h1 (.inl rfl) ⟨h2, h3⟩ h4
  ·exact .sized 4 hs h1 (.inr rfl) ⟨h2, h3⟩ h4
 | false =>
  by_cases h16 : c.Width = 16
  ·obtain ⟨h1, h2⟩ := h.wide hi hs h16
   exact .wide hs h16 h1 h2
  ·obtain ⟨h1, h2, h3, h4⟩ := h.num hi hs h16
   have hw : c.Width = (c.Width.toNat : Nat) := by omega
   refine .num c.Width.toNat hs hw (by omega) h1 (fun hc => ?_) (fun hb => ?_)
   ·obtain ⟨q1, q2⟩ := h3 hc
    exact ⟨by omega, q2⟩
   ·have := h4 (by omega)
    omega
theorem Vx {code : Int} {c : X5} (h : Well code c) (hk : c.Kind ≤ 21) : c.Items = false := by
 rw [h.items]
 exact decide_eq_false (by omega)
theorem Qbk (n : Nat) (h : n < 4611686018427387904) : IntKind.u64.wrap (n : Int) = n := Vv _ (by omega)
theorem Qnl (N : Nat) (c : X5) (v : Q0) (w : Nat) (hw : c.Width = w) (h : w ≤ 8) (hl : v.Text.length ≤ 1048576) (hN : 10 < N) : Xw N ⟨c, v⟩ = some (V8 v.Text.length w ++ v.Text) := by
 simp only [Xw, Qbk _ (show v.Text.length < 4611686018427387904 by omega), hw, Q36 N _ w (show v.Text.length < 18446744073709551616 by omega) h hN, Option.bind_some, Qa]
 rw [if_pos (by simp [Nat.ble_eq, Za]; omega)]
theorem Qt0 (N : Nat) (c : X5) (v : Q0) (w : Nat) (hw : c.Width = w) (h : w ≤ 8) (hn : okU v.N') (hN : 10 < N) : Zj N ⟨c, v⟩ = some (V8 v.N'.toNat w) := by
 have e : v.N' = ((v.N'.toNat : Nat) : Int) := by have := hn.1; omega
 have hlt : v.N'.toNat < 18446744073709551616 := by have := hn.2; have := hn.1; omega
 simp only [Zj]
 rw [e, hw, Q36 N _ w hlt h hN]
 rfl
theorem Qsf (N : Nat) (code : Int) (v : Q0) (hn : okU v.N') (h : v.Text.length < N) (hb : v.Text.length < 4611686018427387904) (hN : 10 < N) : Jm N code v = some (Qpd code v) := by
 simp only [Jm, Q1i N v hn h hb, Ql8 N code v hn h hb, Qy, Option.bind_some, Qa, Uk, Qpd]
 by_cases h1 : Vn v = 0
 ·rw [if_neg (show ¬ (Vn v ≠ 0) by simp [h1]), if_neg (show ¬ (Vn v ≠ 0) by simp [h1])]
  cases hf : Jb code v with
  | false => rfl
  | true =>
   obtain ⟨f1, f2, f3, f4⟩ := Ju hf
   obtain ⟨c1, c2, c3, c4, c5, c6, c7⟩ := Vd f3
   have hw := Q6i code f1
   have hi := Vx hw (by omega)
   simp only [Bool.not_true, Bool.false_eq_true, if_false, Bool.true_eq_false]
   generalize ofS code = c at *
   unfold J1
   cases hw.shape hi with
   | sized w hs hw' h12 hk hc =>
    rw [hs, Qnl N c v w hw' (by omega) c7 hN, hw']
    simp
   | wide hs hw' hk hc =>
    rw [hs, hw']
    simp only [Bool.false_eq_true, if_false]
    rw [if_neg (by decide), if_neg (by decide), if_neg (by decide), if_neg (by decide), if_neg (by decide), if_pos (by decide)]
    rfl
   | num w hs hw' hh ht hc hbb =>
    rw [hs, Qt0 N c v w hw' (by omega) hn hN, hw']
    simp only [Bool.false_eq_true, if_false, Vc, Option.bind_some]
    rcases hh with rfl | rfl | rfl | rfl | rfl
    ·rw [if_pos (by decide), if_neg (by decide)]; rfl
    ·rw [if_neg (by decide), if_pos (by decide), if_neg (by decide)]; rfl
    ·rw [if_neg (by decide), if_neg (by decide), if_pos (by decide), if_neg (by decide)]; rfl
    ·rw [if_neg (by decide), if_neg (by decide), if_neg (by decide), if_pos (by decide), if_neg (by decide)]; rfl
    ·rw [if_neg (by decide), if_neg (by decide), if_neg (by decide), if_neg (by decide), if_pos (by decide), if_neg (by decide)]; rfl
 ·rw [if_pos h1, if_pos h1]
theorem Qh5 (k : Int) (v : Q0) (n : Int) : (if k = 0 then some (v, n, (0 : Int)) else if k = 2 then some (⟨0, 0, [], []⟩, 0, 5) else some (⟨0, 0, [], []⟩, 0, k)) = some (if k = 0 then (v, n, 0) else (Gg, 0, if k = 2 then 5 else k)) := by
 split
 ·rfl
 ·split <;> rfl
theorem Qpv (N : Nat) (code : Int) (s : List UInt8) (hs : Q7z s) (h : s.length < N) (hN : 20 < N) : Jg N code s = some (Q7l code s) := by
 simp only [Jg, Qy, Option.bind_some, Qa, Q7l]
 cases hb : ofB code with
 | false => simp only [Bool.not_false, if_true, true_or]; rfl
 | true =>
  have hw := Q6i code hb
  simp only [Bool.not_true, Bool.false_eq_true, if_false, Bool.true_eq_false, false_or]
  cases hi : (ofS code).Items with
  | true => rfl
  | false =>
   simp only [Bool.false_eq_true, if_false]
   generalize ofS code = c at *
   have hz : (0 : Int) = ((0 : Nat) : Int) := rfl
   cases hw.shape hi with
   | sized w hsz hw' h12 hk hc =>
    rw [hsz, hw', Q60 N s w hs (by omega) (by omega)]
    simp only [if_true, Option.bind_some, Int.toNat_natCast]
    by_cases hl : w ≤ s.length
    ·rw [if_pos hl]
     simp only []
     rw [Q47 N s w 0 hl, if_neg (by omega)]
     simp only [Option.bind_some, Q3q]
     have hlt := Q27 (s.take w)
     have h4 : 256 ^ (s.take w).length ≤ 256 ^ 4 := Nat.pow_le_pow_right (by omega) (by rw [List.length_take]; omega)
     have h5 : (256 : Nat) ^ 4 = 4294967296 := rfl
     unfold Q7z at hs
     rw [Qbk _ (by omega)]
     generalize hm : Vj (s.take w) = m at *
     by_cases h6 : s.length - w < m
     ·rw [if_pos (by omega), if_pos h6]; rfl
     ·rw [if_neg (by omega), if_neg h6]
      rw [Qu _ (by omega), Q1u N s w m (by unfold Q7z; omega) hl (by omega), if_pos (by omega)]
      have hcl : ((s.drop w).take m).length ≤ s.length := by rw [List.length_take, List.length_drop]; omega
      simp only [Option.bind_some, Qe, Qi, Uk]
      rw [if_neg (by simp), Q1i N _ Qsl (by dsimp only; omega) (by dsimp only; omega)]
      simp only [Option.bind_some, Va]
      rw [Qh5]
      unfold Ql9
      rw [show ((w + m : Nat) : Int) = (w : Int) + (m : Int) by push_cast; rfl]
    ·rw [if_neg hl, if_pos (by omega)]
     simp only []
     have := Q47 N s 0 3 (by omega)
     rw [← hz] at this
     rw [this]
     simp only [Option.bind_some, Q3q]
     unfold Q7z at hs
     rw [Qbk _ (by omega), if_neg (by omega)]
     have e0 : Qg N ⟨s, 0, 3⟩ (IntKind.i64.wrap 0) = some ([], ⟨s, 0, 3⟩) := by
      simp only [Qg, Wi, Option.bind_some, Qa]
      rfl
     rw [e0]
     simp only [Option.bind_some, Qe, Uk]
     rw [if_pos (by decide)]; rfl
   | wide hsz hw' hk hc =>
    rw [hsz, hw']
    simp only [Bool.false_eq_true, if_false, Va, if_true]
    have := Q1u N s 0 16 hs (by omega) (by omega)
    rw [← hz, show ((16 : Nat) : Int) = 16 from rfl] at this
    rw [this]
    simp only [Nat.sub_zero, List.drop_zero, Option.bind_some]
    by_cases hl : 16 ≤ s.length
    ·rw [if_pos hl, if_neg (by omega)]
     have hcl : (s.take 16).length ≤ s.length := by rw [List.length_take]; omega
     unfold Q7z at hs
     simp only [Option.bind_some, Qe, Qi, Uk]
     rw [if_neg (by simp), Q1i N _ Qsl (by dsimp only; omega) (by dsimp only; omega)]
     simp only [Option.bind_some]
     rw [Qh5]
     rfl
    ·rw [if_neg hl, if_pos (by omega)]
     simp only [Qe, Option.bind_some, Uk]
     rw [if_pos (by decide)]; rfl
   | num w hsz hw' hh ht hc hbb =>
    rw [hsz, hw']
    simp only [Bool.false_eq_true, if_false, Va, Int.toNat_natCast]
    rw [if_neg (by omega), if_neg (show ¬ ((w : Int) = 16) by omega)]
    by_cases h65 : c.Code = 65
    ·obtain ⟨rfl, hk2⟩ := hc h65
     rw [if_pos h65, if_pos h65, if_neg (by omega)]
     simp only [Option.bind_some, Qe, Qi, Uk]
     rw [if_neg (by simp), Q1i N _ Qur (by simp only [List.length_nil]; omega) (by simp only [List.length_nil]; omega)]
     simp only [Option.bind_some]
     rw [Qh5]
     rfl
    ·rw [if_neg h65, if_neg h65, Q60 N s w hs (by omega) (by omega)]
     simp only [Option.bind_some]
     by_cases hl : w ≤ s.length
     ·rw [if_pos hl, if_neg (by omega)]
      have hlt := Q27 (s.take w)
      rw [List.length_take, Nat.min_eq_left hl] at hlt
      simp only []
      rw [Qhe N c _ w hw' hh hlt]
      simp only [Option.bind_some, Qe, Qi, Uk]
      have hu : okU (Gc c (Vj (s.take w) : Nat)) := by
       rcases hh with rfl | hh
       ·have : Gc c (Vj (s.take 0) : Nat) = 0 := by
         unfold Gc
         rw [if_neg (by omega)]; rfl
        rw [this]; exact ⟨by decide, by decide⟩
       ·exact (Qeq hw' (by omega) hlt).1
      rw [if_neg (by simp), Q1i N _ hu (by simp only [List.length_nil]; omega) (by simp only [List.length_nil]; omega)]
      simp only [Option.bind_some]
      rw [Qh5]
      rfl
     ·rw [if_neg hl, if_pos (by omega)]
      simp only []
      rw [hz, Qhe N c 0 w hw' hh (Nat.pow_pos (by omega))]
      simp only [Option.bind_some, Qe, Uk]
      rw [if_pos (by decide)]; rfl
end
end Go.Av
namespace Go.Av
noncomputable section
open Go.Proofs
set_option maxRecDepth 100000
theorem Q0.ext' {v w : Q0} (h1 : v.Kind = w.Kind) (h2 : v.N' = w.N') (h3 : v.Text = w.Text) (h4 : v.Items = w.Items) : v = w := by
 cases v; cases w; simp_all
theorem Q20 {k : Int} (h : 19 ≤ k ∧ k ≤ 21) : Q2k k = true := by
 unfold Q2k; exact decide_eq_true (by omega)
theorem Q6v {k : Int} (h : k = 15 ∨ k = 18) : Q2k k = true := by
 unfold Q2k; exact decide_eq_true (by omega)
theorem Q0r {code : Int} {v : Q0} (hf : Jb code v = true) : (J1 (ofS code) v).length = (ofS code).Width.toNat + (if (ofS code).Sized then v.Text.length else 0) := by
 obtain ⟨f1, f2, f3, f4⟩ := Ju hf
 obtain ⟨c1, c2, c3, c4, c5, c6, c7⟩ := Vd f3
 have hw := Q6i code f1
 have hi := Vx hw (by omega)
 unfold J1
 cases hw.shape hi with
 | sized w hs hw' h12 hk hc => rw [hs]; simp [Za]
 | wide hs hw' hk hc =>
  rw [hs, hw']
  simp [c6 (by omega)]
 | num w hs hw' hh ht hc hbb =>
  rw [hs, hw']
  simp only [Bool.false_eq_true, if_false]
  rw [if_neg (by omega), Za]; rfl
theorem Qoc {code : Int} {v : Q0} {w : Nat} (_hn : okU v.N') (hf : Jb code v = true) (hs : (ofS code).Sized = false) (hw' : (ofS code).Width = w) (hh : w = 1 ∨ w = 2 ∨ w = 4 ∨ w = 8) (h65 : (ofS code).Code ≠ 65)
  (hbb : 2 ≤ w → (Ut (ofS code).Kind).1 = 8 * w) : Q3s v.N' (8 * w) (Ut (ofS code).Kind).2 = true := by
 obtain ⟨f1, f2, f3, f4⟩ := Ju hf
 obtain ⟨c1, c2, c3, c4, c5, c6, c7⟩ := Vd f3
 unfold Q1a at f4
 rw [if_neg h65, hs, hw'] at f4
 simp only [Bool.false_eq_true, if_false] at f4
 rw [if_neg (by omega)] at f4
 by_cases h1 : w = 1
 ·subst h1
  rw [if_pos (by decide)] at f4
  exact f4
 ·simp only [Q9f, Bool.and_eq_true] at c3
  have := c3.1
  rw [← f2, hbb (by omega)] at this
  exact this
theorem Qs1 {code : Int} {v : Q0} (hn : okU v.N') (hf : Jb code v = true) (s : List UInt8) : Q7l code (J1 (ofS code) v ++ s) = (v, ((J1 (ofS code) v).length : Int), 0) := by
 have hlen := Q0r hf
 obtain ⟨f1, f2, f3, f4⟩ := Ju hf
 obtain ⟨c1, c2, c3, c4, c5, c6, c7⟩ := Vd f3
 have hw := Q6i code f1
 have hi := Vx hw (by omega)
 have nf := fun w => Qoc (w := w) hn hf
 unfold Q7l
 rw [f1, hi, if_neg (by simp)]
 have hd : J1 (ofS code) v = J1 (ofS code) v := rfl
 unfold J1 at hd hlen ⊢
 cases hw.shape hi with
 | sized w hs hw' h12 hk hc =>
  simp only [hs, hw', if_true, Int.toNat_natCast, List.append_assoc]
  have hbl := Za w v.Text.length
  have e1 : (V8 v.Text.length w ++ (v.Text ++ s)).take w = V8 v.Text.length w := List.take_left' hbl
  have e2 : (V8 v.Text.length w ++ (v.Text ++ s)).drop w = v.Text ++ s := List.drop_left' hbl
  have htx : Q2k v.Kind = true := Q20 (by omega)
  have hn0 := Qf6 htx c3 hn.1
  have e3 : v.Text.length % 256 ^ w = v.Text.length := by
   apply Nat.mod_eq_of_lt
   unfold Q1a at f4
   rw [if_neg hc, hs, if_pos rfl, hw'] at f4
   rcases h12 with rfl | rfl
   ·simp at f4; omega
   ·omega
  rw [e1, e2, Q1k, e3, List.take_left' rfl]
  rw [if_neg (by simp [hbl]; omega), if_neg (by simp [hbl])]
  have ev : (⟨(ofS code).Kind, 0, v.Text, []⟩ : Q0) = v := Q0.ext' f2 hn0.symm rfl c4.symm
  rw [ev, Ql9, if_pos f3]
  simp [hbl]
 | wide hs hw' hk hc =>
  simp only [hs, hw', Bool.false_eq_true, if_false, if_true]
  have h16 := c6 (by omega)
  have htx : Q2k v.Kind = true := Q6v (by omega)
  have hn0 := Qf6 htx c3 hn.1
  rw [if_neg (by simp [h16]; omega), List.take_left' h16]
  have ev : (⟨(ofS code).Kind, 0, v.Text, []⟩ : Q0) = v := Q0.ext' f2 hn0.symm rfl c4.symm
  rw [ev, Ql9, if_pos f3]
  simp [h16]
 | num w hs hw' hh ht hc hbb =>
  simp only [hs, hw', Bool.false_eq_true, if_false, Int.toNat_natCast]
  have h16 : ¬ ((w : Int) = 16) := by omega
  have hbl := Za w v.N'.toNat
  have ht0 := c5 (by rw [← f2]; exact ht)
  simp only [h16, if_false]
  rw [if_neg (by simp [hbl]; omega)]
  by_cases h65 : (ofS code).Code = 65
  ·obtain ⟨rfl, hk2⟩ := hc h65
   rw [if_pos h65]
   have hn1 : v.N' = 1 := by
    unfold Q1a at f4
    rw [if_pos h65] at f4
    simpa using f4
   have ev : (⟨(ofS code).Kind, 1, [], []⟩ : Q0) = v := Q0.ext' f2 hn1.symm ht0.symm c4.symm
   rw [ev, Ql9, if_pos f3]
   simp [hbl]
  ·rw [if_neg h65, List.take_left' hbl, Q1k]
   have e : Gc (ofS code) ((v.N'.toNat % 256 ^ w : Nat) : Int) = v.N' := by
    rcases hh with rfl | hh
    ·unfold Q1a at f4
     rw [if_neg h65, hs, hw'] at f4
     simp at f4
     unfold Gc
     rw [if_neg (by omega), f4]; rfl
    ·exact Qk1 hw' hh hn (nf w hs hw' hh h65 hbb)
   rw [e]
   have ev : (⟨(ofS code).Kind, v.N', [], []⟩ : Q0) = v := Q0.ext' f2 rfl ht0.symm c4.symm
   rw [ev, Ql9, if_pos f3]
   simp [hbl]
end
end Go.Av
namespace Go.Av
noncomputable section
open Go.Proofs
set_option maxRecDepth 100000
theorem Qh6 {v x : Q0} {n m : Int} (h : Ql9 v n = (x, m, 0)) : Vn v = 0 ∧ x = v ∧ m = n := by
 unfold Ql9 at h
 split at h
 ·rename_i h0
  cases h
  exact ⟨h0, rfl, rfl⟩
 ·rename_i h0
  simp only [Prod.mk.injEq] at h
  split at h <;> omega
theorem reads {code : Int} {s : List UInt8} {x : Q0} {n : Int} (hs : Q7z s) (h : Q7l code s = (x, n, 0)) : 0 ≤ n ∧ n ≤ s.length ∧ okU x.N' ∧ x.Text.length ≤ s.length ∧ Vn x = 0 ∧ Jb code x = true ∧ J1 (ofS code) x = s.take n.toNat := by
 unfold Q7l at h
 split at h
 ·cases h
 rename_i h1
 have hb : ofB code = true := by
  cases hb : ofB code with
  | true => rfl
  | false => exact absurd (.inl hb) h1
 have hi : (ofS code).Items = false := by
  cases hi : (ofS code).Items with
  | false => rfl
  | true => exact absurd (.inr hi) h1
 have hw := Q6i code hb
 split at h
 ·cases h
 rename_i h2
 have fit : ∀ v : Q0, v.Kind = (ofS code).Kind → Vn v = 0 → Q1a (ofS code) v = true → Jb code v = true := fun v q1 q2 q3 => by
  simp only [Jb, hb, q1, q2, q3, decide_true, Bool.and_self]
 have hd : ∀ v, J1 (ofS code) v = J1 (ofS code) v := fun _ => rfl
 unfold Q7z at hs
 cases hw.shape hi with
 | sized w hsz hw' h12 hk hc =>
  simp only [hsz, hw', if_true, Int.toNat_natCast] at h
  split at h
  ·cases h
  rename_i h3
  obtain ⟨q1, rfl, rfl⟩ := Qh6 h
  have hlw : w ≤ s.length := by omega
  have hmlt := Q27 (s.take w)
  rw [List.length_take, Nat.min_eq_left hlw] at hmlt
  have hbn := Qkz (s.take w)
  rw [List.length_take, Nat.min_eq_left hlw] at hbn
  generalize hm : Vj (s.take w) = m at *
  have hlen : ((s.drop w).take m).length = m := by rw [List.length_take, List.length_drop]; omega
  refine ⟨by omega, by omega, Qsl, by simp only [hlen]; omega, q1, fit _ rfl q1 ?_, ?_⟩
  ·unfold Q1a
   rw [if_neg hc, hsz, if_pos rfl, hw']
   rcases h12 with rfl | rfl
   ·simp only [hlen]
    simp at hmlt
    exact decide_eq_true (.inr (by omega))
   ·exact decide_eq_true (.inl rfl)
  ·unfold J1
   simp only [hsz, if_true, hw', Int.toNat_natCast, hlen, hbn]
   rw [show ((w : Int) + (m : Int)).toNat = w + m by omega, List.take_add]
 | wide hsz hw' hk hc =>
  simp only [hsz, hw', Bool.false_eq_true, if_false, if_true] at h
  obtain ⟨q1, rfl, rfl⟩ := Qh6 h
  refine ⟨by omega, by omega, Qsl, by simp only [List.length_take]; omega, q1, fit _ rfl q1 ?_, ?_⟩
  ·unfold Q1a
   rw [if_neg hc, hsz, hw']; rfl
  ·unfold J1
   simp only [hsz, hw', Bool.false_eq_true, if_false, if_true]
   rfl
 | num w hsz hw' hh ht hc hbb =>
  simp only [hsz, hw', Bool.false_eq_true, if_false, Int.toNat_natCast] at h
  rw [if_neg (show ¬ ((w : Int) = 16) by omega)] at h
  split at h
  ·rename_i h65
   obtain ⟨rfl, hk2⟩ := hc h65
   obtain ⟨q1, rfl, rfl⟩ := Qh6 h
   refine ⟨by omega, by omega, Qur, by simp, q1, fit _ rfl q1 ?_, ?_⟩
   ·unfold Q1a
    rw [if_pos h65]; rfl
   ·unfold J1
    simp only [hsz, hw', Bool.false_eq_true, if_false]
    rfl
  ·rename_i h65
   obtain ⟨q1, rfl, rfl⟩ := Qh6 h
   have hlw : w ≤ s.length := by omega
   have hlt := Q27 (s.take w)
   have hbn := Qkz (s.take w)
   rw [List.length_take, Nat.min_eq_left hlw] at hlt hbn
   rcases hh with rfl | hh
   ·have e0 : Gc (ofS code) (Vj (s.take 0) : Nat) = 0 := by
     unfold Gc
     rw [if_neg (by omega)]; rfl
    rw [e0] at q1 ⊢
    refine ⟨by omega, by omega, Qsl, by simp, q1, fit _ rfl q1 ?_, ?_⟩
    ·unfold Q1a
     rw [if_neg h65, hsz, hw']; rfl
    ·unfold J1
     simp only [hsz, hw', Bool.false_eq_true, if_false]
     rfl
   ·obtain ⟨w1, w2, w3⟩ := Qeq hw' hh hlt
    refine ⟨by omega, by omega, w1, by simp, q1, fit _ rfl q1 ?_, ?_⟩
    ·unfold Q1a
     rw [if_neg h65, hsz, hw']
     simp only [Bool.false_eq_true, if_false]
     rw [if_neg (by omega)]
     split
     ·rename_i h1
      have : w = 1 := by omega
      subst this
      exact w3
     ·rfl
    ·unfold J1
     simp only [hsz, hw', Bool.false_eq_true, if_false, Int.toNat_natCast]
     rw [if_neg (by omega), ← Qhn, w2, hbn]
end
end Go.Av
namespace Go.Av
noncomputable section
open Go.Proofs
set_option maxRecDepth 100000
theorem Q5r {code : Int} (h : ofB code = true) : 0 ≤ code ∧ code < 256 := by
 have h1 : bsI code < 40 ∧ U6 (bsI code) = code := by simpa [ofB] using h
 have hall : ((List.range 40).all fun k => decide (0 ≤ U6 k ∧ U6 k < 256)) = true := by decide +kernel
 have := List.all_eq_true.1 hall (bsI code) (by simpa using h1.1)
 rw [h1.2] at this
 simpa using this
end
end Go.Av
namespace Go.Av
noncomputable section
open Go.Proofs
set_option maxRecDepth 100000
theorem kinds {k : Int} (h : 1 ≤ k ∧ k ≤ 21) : k = 1 ∨ k = 2 ∨ k = 3 ∨ k = 4 ∨ k = 5 ∨ k = 6 ∨ k = 7 ∨ k = 8 ∨ k = 9 ∨ k = 10 ∨ k = 11 ∨ k = 12 ∨ k = 13 ∨ k = 14 ∨ k = 15 ∨ k = 16 ∨ k = 17 ∨ k = 18 ∨ k = 19 ∨ k = 20 ∨ k = 21 := by omega
end
end Go.Av
namespace Go.Av
noncomputable section
open Go.Proofs
set_option maxRecDepth 100000
def Qk5 (k : Nat) : Bool := (Xd k).2.2.2.2 || (Xd k).2.2.2.1 || !decide ((Xd k).2.2.1 = 1) || decide (((Xd k).1 = 80 ∧ (Xd k).2.1 = 3) ∨ ((Xd k).1 = 81 ∧ (Xd k).2.1 = 7) ∨ ((Xd k).1 = 82 ∧ (Xd k).2.1 = 5) ∨ ((Xd k).1 = 83 ∧ (Xd k).2.1 = 6) ∨ ((Xd k).1 = 84 ∧ (Xd k).2.1 = 9) ∨ ((Xd k).1 = 85 ∧ (Xd k).2.1 = 10) ∨ ((Xd k).1 = 86 ∧ (Xd k).2.1 = 2))
theorem Qil : ((List.range 40).all Qk5) = true := by decide +kernel
theorem Qm4 {P : Int × Int × Int × Bool × Bool → Prop} {B : Nat → Bool} (hB : ((List.range 40).all B) = true) (hP : ∀ k, B k = true → P (Xd k)) {code : Int} (h : ofB code = true) : P (ofT code) := by
 have h1 : bsI code < 40 ∧ U6 (bsI code) = code := by simpa [ofB] using h
 have := List.all_eq_true.1 hB (bsI code) (by simpa using h1.1)
 have e : ofT code = Xd (bsI code) := by unfold ofT; rw [if_pos h]
 rw [e]; exact hP _ this
theorem Quv {code : Int} (h : ofB code = true) (hi : (ofS code).Items = false) (hs : (ofS code).Sized = false) (hw : (ofS code).Width = 1) :
  (code = 80 ∧ (ofS code).Kind = 3) ∨ (code = 81 ∧ (ofS code).Kind = 7) ∨ (code = 82 ∧ (ofS code).Kind = 5) ∨ (code = 83 ∧ (ofS code).Kind = 6) ∨ (code = 84 ∧ (ofS code).Kind = 9) ∨ (code = 85 ∧ (ofS code).Kind = 10) ∨ (code = 86 ∧ (ofS code).Kind = 2) := by
 have hc := (Q6i code h).code
 have := Qm4 (P := fun t => t.2.2.2.2 = false → t.2.2.2.1 = false → t.2.2.1 = 1 → (t.1 = 80 ∧ t.2.1 = 3) ∨ (t.1 = 81 ∧ t.2.1 = 7) ∨ (t.1 = 82 ∧ t.2.1 = 5) ∨ (t.1 = 83 ∧ t.2.1 = 6) ∨ (t.1 = 84 ∧ t.2.1 = 9) ∨ (t.1 = 85 ∧ t.2.1 = 10) ∨ (t.1 = 86 ∧ t.2.1 = 2)) Qil (fun k hk h1 h2 h3 => by
  simp only [Qk5, h1, h2, h3, Bool.false_or, decide_true, Bool.not_true, decide_eq_true_eq] at hk
  exact hk) h
 have h2 := this hi hs hw
 have hc' : (ofT code).1 = code := hc
 rw [hc'] at h2
 exact h2
end
end Go.Av
namespace Go.Av
noncomputable section
open Go.Proofs
set_option maxRecDepth 100000
end
end Go.Av
namespace Go.Av
noncomputable section
open Go.Proofs
set_option maxRecDepth 100000
theorem Qpr {P : Q0 → Prop} (h : ∀ v, (∀ x ∈ v.Items, P x) → P v) : ∀ (n : Nat) (v : Q0), v.sz ≤ n → P v
 | 0, v, hn => by have := v.sz_eq; omega
 | n + 1, v, hn => h v (fun x hx => Qpr h n x (by have := v.sz_eq; have := Q0.szs_mem _ x hx; omega))
theorem Q0.ind {P : Q0 → Prop} (h : ∀ v, (∀ x ∈ v.Items, P x) → P v) (v : Q0) : P v := Qpr h v.sz v (Nat.le_refl _)
theorem Qhb {R : Q0 → Q0 → Option Bool} {N : Nat} {a b : Q0} (hlen : a.Items.length = b.Items.length) (hb : a.Items.length < 4611686018427387904)
  (hR : ∀ y ∈ a.Items, ∀ z, R y z = some (decide (y = z))) : ∀ (n i : Nat), i ≤ a.Items.length → a.Items.length - i < n →
  W7 R N a b n (i : Int) = some (decide (a.Items.drop i = b.Items.drop i))
 | 0, i, _, h => by omega
 | n + 1, i, h1, h2 => by
  simp only [W7, Qa, Vg, Zh]
  by_cases hi : i < a.Items.length
  ·rw [if_pos (by omega), X4, X4, List.getElem?_eq_getElem hi, List.getElem?_eq_getElem (show i < b.Items.length by omega)]
   simp only [Option.bind_some, hR _ (List.getElem_mem hi)]
   rw [Qu _ (by omega)]
   have ih := Qhb (N := N) hlen hb hR n (i + 1) (by omega) (by omega)
   rw [List.drop_eq_getElem_cons hi, List.drop_eq_getElem_cons (show i < b.Items.length by omega)]
   by_cases he : a.Items[i] = b.Items[i]
   ·rw [← he]; simp only [decide_true, Bool.not_true, Bool.false_eq_true, if_false, List.cons.injEq, true_and]
    exact_mod_cast ih
   ·have hne : ¬ (a.Items[i] :: List.drop (i + 1) a.Items = b.Items[i] :: List.drop (i + 1) b.Items) := fun e => he (List.cons.inj e).1
    simp only [he, decide_false, Bool.not_false, if_true]
    rw [decide_eq_false hne]
  ·rw [if_neg (by omega), List.drop_of_length_le (by omega), List.drop_of_length_le (by omega)]
   simp
theorem Qjz : ∀ (N : Nat) (a b : Q0), a.sz < N → a.sz < 1000000000 → Ws N a b = some (decide (a = b))
 | 0, a, b, h, _ => by have := a.sz_eq; omega
 | N + 1, a, b, h, h2 => by
  have hs := a.sz_eq
  have hl := Q0.szs_len a.Items
  simp only [Ws, Jc, Qa, Uk, Q0k, Zh]
  by_cases e1 : a.Kind = b.Kind
  ·by_cases e2 : a.N' = b.N'
   ·by_cases e3 : a.Text = b.Text
    ·by_cases e4 : a.Items.length = b.Items.length
     ·rw [if_neg (by simp [e1]), if_neg (by simp [e2]), if_neg (by simp [e3]), if_neg (by simp [e4])]
      have := Qhb (N := N) (R := Ws N) e4 (by omega) (fun y hy z => Qjz N y z (by have := Q0.szs_mem _ y hy; omega) (by have := Q0.szs_mem _ y hy; omega)) N 0 (by omega) (by omega)
      rw [show (0 : Int) = ((0 : Nat) : Int) from rfl, this]
      cases a; cases b; simp_all
     ·rw [if_neg (by simp [e1]), if_neg (by simp [e2]), if_neg (by simp [e3]), if_pos (by omega)]
      have : a ≠ b := fun e => e4 (by rw [e])
      simp [this]
    ·rw [if_neg (by simp [e1]), if_neg (by simp [e2]), if_pos (by simpa using e3)]
     have : a ≠ b := fun e => e3 (by rw [e])
     simp [this]
   ·rw [if_neg (by simp [e1]), if_pos (by simpa using e2)]
    have : a ≠ b := fun e => e2 (by rw [e])
    simp [this]
  ·rw [if_pos (by simpa using e1)]
   have : a ≠ b := fun e => e1 (by rw [e])
   simp [this]
end
end Go.Av
namespace Go.Av
noncomputable section
open Go.Proofs
set_option maxRecDepth 100000
def nnS (v : Q0) : Bool := (Zf 0 v).getD false
theorem Qsn (N : Nat) (v : Q0) : Zf N v = some (nnS v) := by
 have h : Zf N v = Zf 0 v := rfl
 rw [h]
 unfold nnS Zf
 simp only [Qa]
 repeat' split
 all_goals rfl
mutual
def Q3z : Q0 → Q0 → Bool
 | .mk k n t is, b => decide (k = b.Kind) && (decide (t = b.Text) && (decide (is.length = b.Items.length) && ((decide (n = b.N') || (nnS ⟨k, n, t, is⟩ && nnS b)) && Q39 is b.Items)))
def Q39 : List Q0 → List Q0 → Bool
 | [], _ => true
 | x :: l, y :: m => Q3z x y && Q39 l m
 | _ :: _, [] => false
end
theorem Qek (a b : Q0) : Q3z a b = (decide (a.Kind = b.Kind) && (decide (a.Text = b.Text) && (decide (a.Items.length = b.Items.length) && ((decide (a.N' = b.N') || (nnS a && nnS b)) && Q39 a.Items b.Items)))) := by
 cases a; simp only [Q3z]
theorem Qh8 {R : Q0 → Q0 → Option Bool} {N : Nat} {a b : Q0} (hlen : a.Items.length = b.Items.length) (hb : a.Items.length < 4611686018427387904)
  (hR : ∀ y ∈ a.Items, ∀ z, R y z = some (Q3z y z)) : ∀ (n i : Nat), i ≤ a.Items.length → a.Items.length - i < n →
  Xl R N a b n (i : Int) = some (Q39 (a.Items.drop i) (b.Items.drop i)) ∧ Xm R N a b n (i : Int) = some (Q39 (a.Items.drop i) (b.Items.drop i))
 | 0, i, _, h => by omega
 | n + 1, i, h1, h2 => by
  simp only [Xl, Xm, Qa, Vg, Zh]
  by_cases hi : i < a.Items.length
  ·rw [if_pos (by omega), if_pos (by omega), X4, X4, List.getElem?_eq_getElem hi, List.getElem?_eq_getElem (show i < b.Items.length by omega)]
   simp only [Option.bind_some, hR _ (List.getElem_mem hi)]
   rw [Qu _ (by omega)]
   obtain ⟨ih1, ih2⟩ := Qh8 (N := N) hlen hb hR n (i + 1) (by omega) (by omega)
   rw [List.drop_eq_getElem_cons hi, List.drop_eq_getElem_cons (show i < b.Items.length by omega), Q39]
   cases Q3z a.Items[i] b.Items[i] with
   | true =>
    simp only [Bool.not_true, Bool.false_eq_true, if_false, Bool.true_and]
    exact ⟨by exact_mod_cast ih1, by exact_mod_cast ih2⟩
   | false => simp
  ·rw [if_neg (by omega), if_neg (by omega), List.drop_of_length_le (by omega)]
   simp [Q39]
theorem Qic : ∀ (N : Nat) (a b : Q0), a.sz < N → a.sz < 1000000000 → Wc N a b = some (Q3z a b)
 | 0, a, b, h, _ => by have := a.sz_eq; omega
 | N + 1, a, b, h, h2 => by
  have hs := a.sz_eq
  have hl := Q0.szs_len a.Items
  rw [Qek]
  simp only [Wc, Ux, Qa, Uk, Q0k, Zh, Qsn, Option.bind_some]
  by_cases e1 : a.Kind = b.Kind
  ·by_cases e3 : a.Text = b.Text
   ·by_cases e4 : a.Items.length = b.Items.length
    ·rw [if_neg (by simp [e1]), if_neg (by simp [e3]), if_neg (by simp [e4])]
     obtain ⟨i1, i2⟩ := Qh8 (N := N) (R := Wc N) e4 (by omega) (fun y hy z => Qic N y z (by have := Q0.szs_mem _ y hy; omega) (by have := Q0.szs_mem _ y hy; omega)) N 0 (by omega) (by omega)
     rw [show ((0 : Nat) : Int) = 0 from rfl] at i1 i2
     rw [i1, i2, List.drop_zero, List.drop_zero]
     simp only [e1, e3, e4, decide_true, Bool.true_and]
     by_cases e2 : a.N' = b.N'
     ·simp [e2]
     ·simp only [e2, ne_eq, not_false_eq_true, if_true, decide_false, Bool.false_or]
      cases nnS a <;> cases nnS b <;> simp
    ·rw [if_neg (by simp [e1]), if_neg (by simp [e3]), if_pos (by omega)]
     simp [e4]
   ·rw [if_neg (by simp [e1]), if_pos (by simpa using e3)]
    simp [e3]
  ·rw [if_pos (by simpa using e1)]
   simp [e1]
def AL (v : Q0) (i j : Nat) : Prop := ∃ x y, v.Items[i]? = some x ∧ v.Items[j]? = some y ∧ Q3z x y = true
open Classical in
noncomputable def Q2v (v : Q0) : Int := if v.Kind ≠ 23 then 0 else if ∃ i j, 2 ≤ i ∧ i % 2 = 0 ∧ i < v.Items.length ∧ j < i ∧ j % 2 = 0 ∧ AL v i j then 16 else 0
open Classical in
theorem Qkk {N : Nat} {v : Q0} (hb : v.sz < 1000000000) (hN : v.sz < N) {k0 : Int → Option Int} {i : Nat} (hi : i < v.Items.length) (i2 : i % 2 = 0) : ∀ (n k : Nat), i - k < n → k % 2 = 0 → k ≤ i →
  W6 N k0 v (i : Int) n (k : Int) = if ∃ j, k ≤ j ∧ j < i ∧ j % 2 = 0 ∧ AL v i j then some 16 else k0 ((i + 2 : Nat) : Int)
 | 0, k, h, _, _ => by omega
 | n + 1, k, h, hk, hki => by
  have hs := v.sz_eq
  have hl := Q0.szs_len v.Items
  simp only [W6, Qa, Vg, X4]
  by_cases hlt : k < i
  ·rw [if_pos (by omega), List.getElem?_eq_getElem hi, List.getElem?_eq_getElem (show k < v.Items.length by omega)]
   simp only [Option.bind_some]
   have hsz := Q0.szs_mem _ _ (List.getElem_mem hi)
   rw [Qic N _ _ (by omega) (by omega)]
   simp only [Option.bind_some]
   cases hal : Q3z v.Items[i] v.Items[k] with
   | true =>
    rw [if_pos rfl, if_pos ⟨k, Nat.le_refl _, hlt, hk, _, _, List.getElem?_eq_getElem hi, List.getElem?_eq_getElem (by omega), hal⟩]
   | false =>
    rw [if_neg (by simp), Qu _ (by omega)]
    have := Qkk (k0 := k0) hb hN hi i2 n (k + 2) (by omega) (by omega) (by omega)
    rw [show ((k : Int) + 2) = ((k + 2 : Nat) : Int) by push_cast; rfl, this]
    by_cases hx : ∃ j, k + 2 ≤ j ∧ j < i ∧ j % 2 = 0 ∧ AL v i j
    ·rw [if_pos hx]
     obtain ⟨j, j1, j2, j3, j4⟩ := hx
     rw [if_pos ⟨j, by omega, j2, j3, j4⟩]
    ·rw [if_neg hx, if_neg]
     rintro ⟨j, j1, j2, j3, j4⟩
     by_cases hjk : j = k
     ·subst hjk
      obtain ⟨x, y, x1, y1, z1⟩ := j4
      rw [List.getElem?_eq_getElem hi] at x1
      rw [List.getElem?_eq_getElem (by omega)] at y1
      cases x1; cases y1
      rw [hal] at z1; cases z1
     ·exact hx ⟨j, by omega, j2, j3, j4⟩
  ·rw [if_neg (by omega), Qu _ (by omega), if_neg (by rintro ⟨j, j1, j2, _⟩; omega)]
   push_cast; rfl
open Classical in
theorem Qkv {N : Nat} {v : Q0} (hb : v.sz < 1000000000) (hN : v.sz < N) : ∀ (n i : Nat), v.Items.length - i < n → i % 2 = 0 → i ≤ v.Items.length + 2 →
  Ym N v n (i : Int) = some (if ∃ i' j, i ≤ i' ∧ i' % 2 = 0 ∧ i' < v.Items.length ∧ j < i' ∧ j % 2 = 0 ∧ AL v i' j then 16 else 0)
 | 0, i, h, _, _ => by omega
 | n + 1, i, h, hi, hle => by
  have hs := v.sz_eq
  have hl := Q0.szs_len v.Items
  simp only [Ym, Qa, Vg, Zh]
  by_cases hlt : i < v.Items.length
  ·rw [if_pos (by omega)]
   have h1 := Qkk (N := N) (k0 := Ym N v n) hb hN hlt hi N 0 (by omega) (by omega) (by omega)
   rw [show ((0 : Nat) : Int) = 0 from rfl] at h1
   rw [h1]
   by_cases hx : ∃ j, 0 ≤ j ∧ j < i ∧ j % 2 = 0 ∧ AL v i j
   ·rw [if_pos hx]
    obtain ⟨j, _, j2, j3, j4⟩ := hx
    rw [if_pos ⟨i, j, Nat.le_refl _, hi, hlt, j2, j3, j4⟩]
   ·rw [if_neg hx, Qkv hb hN n (i + 2) (by omega) (by omega) (by omega)]
    by_cases hy : ∃ i' j, i + 2 ≤ i' ∧ i' % 2 = 0 ∧ i' < v.Items.length ∧ j < i' ∧ j % 2 = 0 ∧ AL v i' j
    ·rw [if_pos hy]
     obtain ⟨i', j, a1, a2, a3⟩ := hy
     rw [if_pos ⟨i', j, by omega, a2, a3⟩]
    ·rw [if_neg hy, if_neg]
     rintro ⟨i', j, a1, a2, a3, a4, a5, a6⟩
     by_cases he : i' = i
     ·subst he; exact hx ⟨j, by omega, a4, a5, a6⟩
     ·exact hy ⟨i', j, by omega, a2, a3, a4, a5, a6⟩
  ·rw [if_neg (by omega), if_neg]
   rintro ⟨i', j, a1, a2, a3, _⟩; omega
theorem Qbp (N : Nat) (v : Q0) (hb : v.sz < 1000000000) (hN : v.sz + 5 < N) : X8 N v = some (Q2v v) := by
 have hs := v.sz_eq
 have hl := Q0.szs_len v.Items
 simp only [X8, Qa, Uk, Q2v]
 by_cases h : v.Kind ≠ 23
 ·rw [if_pos h, if_pos h]
 ·rw [if_neg h, if_neg h]
  exact Qkv hb (by omega) N 2 (by omega) (by omega) (by omega)
def Q6h (v : Q0) : Option Bool :=
 cond (Q7t .neq v.Text [])
 (some false)
 (cond (Q9 .eql v.Kind 24)
 (cond (Q9 .geq v.N' 1)
 (some (Q9 .leq v.N' 24))
 (some false))
 (cond (Q9 .neq v.N' 0)
 (some false)
 (cond (Q9 .eql v.Kind 25)
 (some (Q9 .eql ((Q0.rows v.Items).length : Int) 2))
 (cond (Q9 .eql v.Kind 23)
 (some (Q9 .eql ((((Q0.rows v.Items).length : Int) : Int).tmod 2) 0))
 (some true)))))
def Js (v : Q0) : Bool := (Q6h v).getD false
theorem Qis (v : Q0) : Q6h v = some (Js v) := by
 unfold Js Q6h
 simp only [Qa]
 repeat' split
 all_goals rfl
theorem Ql3 (N : Nat) (v : Q0) : Vf N v = some (Js v) := by
 rw [← Qis v]
 unfold Q6h Vf
 simp only [Qa]
 repeat' split
 all_goals rfl
mutual
noncomputable def Yh : Q0 → Int → Int
 | .mk k n t is, m => if k < 1 then 8 else if 25 < k then 8 else if k ≤ 21 then Vn ⟨k, n, t, is⟩ else if m = 0 then 14 else if Js ⟨k, n, t, is⟩ = false then 2 else if 1000 < is.length then 4 else G8 is k n (m - 1) (Q2v ⟨k, n, t, is⟩)
noncomputable def G8 : List Q0 → Int → Int → Int → Int → Int
 | [], _, _, _, e => e
 | x :: l, k, n, m, e => if k = 24 ∧ IntKind.u64.wrap x.Kind ≠ n then 8 else if Yh x m ≠ 0 then Yh x m else G8 l k n m e
end
theorem Q1b (v : Q0) (m : Int) : Yh v m = if v.Kind < 1 then 8 else if 25 < v.Kind then 8 else if v.Kind ≤ 21 then Vn v else if m = 0 then 14 else if Js v = false then 2 else if 1000 < v.Items.length then 4 else G8 v.Items v.Kind v.N' (m - 1) (Q2v v) := by
 cases v; simp only [Yh]
inductive Fine : Q0 → Prop
 | mk (v : Q0) (hn : okU v.N') (ht : v.Text.length ≤ 300000) (hi : ∀ x ∈ v.Items, Fine x) : Fine v
theorem Fine.num {v : Q0} (h : Fine v) : okU v.N' := by cases h; assumption
theorem Fine.text {v : Q0} (h : Fine v) : v.Text.length ≤ 300000 := by cases h; assumption
theorem Fine.items {v : Q0} (h : Fine v) : ∀ x ∈ v.Items, Fine x := by cases h; assumption
theorem Qgu : ∀ (l : List Q0), Q0.txts l → ∀ x ∈ l, x.txt
 | v :: l, h, x, hx => by
  simp only [Q0.txts] at h
  rcases List.mem_cons.1 hx with rfl | hx
  ·exact h.1
  ·exact Qgu l h.2 x hx
theorem Qdx {R : Q0 → Int → Option Int} {N : Nat} {v : Q0} {m : Int} (hb : v.sz < 1000000000) (hN : v.sz + 5 < N) (hm : 1 ≤ m ∧ m ≤ 32) (hR : ∀ y ∈ v.Items, R y (m - 1) = some (Yh y (m - 1))) : ∀ (n i : Nat), i ≤ v.Items.length → v.Items.length - i < n →
  Yb R N v m n (i : Int) = some (G8 (v.Items.drop i) v.Kind v.N' (m - 1) (Q2v v))
 | 0, i, _, h => by omega
 | n + 1, i, hi, hn => by
  have hs := v.sz_eq
  have hl := Q0.szs_len v.Items
  simp only [Yb, Qa, Vg, Va, Uk, Zh, X4, Qu (m - 1) (show _ by omega), Qbp N v hb hN, Option.bind_some]
  by_cases h : i < v.Items.length
  ·rw [if_pos (by omega), List.getElem?_eq_getElem h, List.drop_eq_getElem_cons h, G8]
   simp only [Option.bind_some, hR _ (List.getElem_mem h)]
   rw [Qu _ (by omega)]
   have ih := Qdx (N := N) hb hN hm hR n (i + 1) (by omega) (by omega)
   rw [show ((i : Int) + 1) = ((i + 1 : Nat) : Int) by push_cast; rfl, ih]
   by_cases h24 : v.Kind = 24
   ·rw [if_pos h24]
    by_cases hw : IntKind.u64.wrap v.Items[i].Kind ≠ v.N'
    ·rw [if_pos hw, if_pos ⟨h24, hw⟩]
    ·rw [if_neg hw, if_neg (show ¬ (v.Kind = 24 ∧ IntKind.u64.wrap v.Items[i].Kind ≠ v.N') from fun hh => hw hh.2)]
     by_cases hc : Yh v.Items[i] (m - 1) ≠ 0
     ·rw [if_pos hc, if_pos hc]
     ·rw [if_neg hc, if_neg hc]
   ·rw [if_neg h24, if_neg (show ¬ (v.Kind = 24 ∧ IntKind.u64.wrap v.Items[i].Kind ≠ v.N') from fun hh => h24 hh.1)]
    by_cases hc : Yh v.Items[i] (m - 1) ≠ 0
    ·rw [if_pos hc, if_pos hc]
    ·rw [if_neg hc, if_neg hc]
  ·rw [if_neg (by omega), List.drop_of_length_le (by omega), G8]
theorem Qep : ∀ (N : Nat) (v : Q0) (m : Int), Fine v → v.sz + 300050 < N → v.sz < 1000000000 → 0 ≤ m → m ≤ 32 → X9 N v m = some (Yh v m)
 | 0, v, m, _, h, _, _, _ => by omega
 | N + 1, v, m, hv, h, h2, m0, m1 => by
  have hs := v.sz_eq
  have hl := Q0.szs_len v.Items
  rw [Q1b]
  have ht := hv.text
  simp only [X9, U5, Qa, Vg, Q3q, Q5n, Va, Zh, Q1i N v hv.num (show v.Text.length < N by omega) (by omega), Ql3, Option.bind_some]
  split
  ·rfl
  rename_i h1
  by_cases h25 : v.Kind > 25
  ·rw [if_pos h25, if_pos (show 25 < v.Kind from h25)]
  rw [if_neg h25, if_neg (show ¬ 25 < v.Kind from h25)]
  split
  ·rfl
  by_cases hm0 : m = 0
  ·rw [if_pos hm0, if_pos hm0]
  rw [if_neg hm0, if_neg hm0]
  cases Js v with
  | false => rfl
  | true =>
   simp only [Bool.not_true, Bool.false_eq_true, if_false, Bool.true_eq_false]
   by_cases hlen : 1000 < v.Items.length
   ·rw [if_pos (by omega), if_pos hlen]
   rw [if_neg (by omega), if_neg hlen]
   have := Qdx (R := X9 N) (N := N) (v := v) (m := m) h2 (by omega) ⟨by omega, m1⟩ (fun y hy => Qep N y (m - 1) (hv.items y hy) (by have := Q0.szs_mem _ y hy; omega) (by have := Q0.szs_mem _ y hy; omega) (by omega) (by omega)) N 0 (by omega) (by omega)
   exact this
def Q7d (m : Int) : Bool := decide (0 ≤ m ∧ m ≤ 32)
theorem Q7y (N : Nat) (m : Int) : Yi N m = some (Q7d m) := by
 unfold Yi Q7d
 simp only [Qa, Qfj]
 by_cases h : 0 ≤ m
 ·rw [if_pos h]
  show some (decide (m ≤ 32)) = _
  rw [Option.some.injEq, decide_eq_decide]; omega
 ·rw [if_neg h, decide_eq_false (by omega)]
noncomputable def Vl (v : Q0) (m : Int) : Int := if Q7d m = false then 2 else Yh v m
theorem Q8e (N : Nat) (v : Q0) (m : Int) (hv : Fine v) (h : v.sz + 300050 < N) (h2 : v.sz < 1000000000) : We N v m = some (Vl v m) := by
 simp only [We, Q7y, Option.bind_some, Qa, Vl]
 cases hr : Q7d m with
 | false => rfl
 | true =>
  have : 0 ≤ m ∧ m ≤ 32 := by simpa [Q7d] using hr
  simp only [Bool.not_true, Bool.false_eq_true, if_false, Bool.true_eq_false]
  rw [Qep N v m hv h h2 this.1 this.2]; rfl
end
end Go.Av
namespace Go.Av
noncomputable section
open Go.Proofs
set_option maxRecDepth 100000
end
end Go.Av
namespace Go.Av
noncomputable section
open Go.Proofs
set_option maxRecDepth 100000
abbrev Rd := Q0 × Int × Int
def X3 (rd : List UInt8 → Rd) : Nat → List UInt8 → List Q0 → (List Q0 × List UInt8) × Int
 | 0, s, acc => ((acc, s), 0)
 | c + 1, s, acc => if (rd s).2.2 ≠ 0 then (([], []), (rd s).2.2) else X3 rd c (s.drop (rd s).2.1.toNat) (acc ++ [(rd s).1])
def Qt (data : Int → List UInt8 → Rd) : List UInt8 → Rd
 | [] => (Gg, 0, 3)
 | b :: t => if (data (b.toNat : Int) t).2.2 ≠ 0 then (Gg, 0, (data (b.toNat : Int) t).2.2) else ((data (b.toNat : Int) t).1, (data (b.toNat : Int) t).2.1 + 1, 0)
def Qev (rd : List UInt8 → Rd) (s : List UInt8) : Rd := if (X3 rd 2 s []).2 ≠ 0 then (Gg, 0, (X3 rd 2 s []).2) else (⟨25, 0, [], (X3 rd 2 s []).1.1⟩, ((s.length - (X3 rd 2 s []).1.2.length : Nat) : Int), 0)
noncomputable def Qaj (k num : Int) (q : (List Q0 × List UInt8) × Int) (tot : Nat) : Rd := if q.2 ≠ 0 then (Gg, 0, if q.2 = 3 then 5 else q.2) else if q.1.2 ≠ [] then (Gg, 0, 5)
 else if Q2v ⟨k, num, [], q.1.1⟩ ≠ 0 then (Gg, 0, Q2v ⟨k, num, [], q.1.1⟩) else (⟨k, num, [], q.1.1⟩, (tot : Int), 0)
theorem Qca {k num e : Int} {tot : Nat} {x : List Q0 × List UInt8} (he : e ≠ 0) : Qaj k num (x, e) tot = (Gg, 0, if e = 3 then 5 else e) := by
 unfold Qaj
 rw [if_pos (show (x, e).2 ≠ 0 from he)]
noncomputable def Qs2 (data : Int → List UInt8 → Rd) (cnt tot : Nat) (k : Int) : List UInt8 → Rd
 | [] => (Gg, 0, 5)
 | b :: t => if ofB (b.toNat : Int) = false ∨ b.toNat = 0 then (Gg, 0, 8) else Qaj k (ofS (b.toNat : Int)).Kind (X3 (data (b.toNat : Int)) cnt t []) tot
noncomputable def Qms (data : Int → List UInt8 → Rd) (c : X5) (w : Nat) (body : List UInt8) (tot : Nat) : Rd :=
 if body.length < w then (Gg, 0, 5)
 else if 1000 < Vj (body.take w) then (Gg, 0, 4)
 else if c.Kind = 23 ∧ Vj (body.take w) % 2 ≠ 0 then (Gg, 0, 5)
 else if c.Kind = 24 then Qs2 data (Vj (body.take w)) tot c.Kind (body.drop w)
 else Qaj c.Kind 0 (X3 (Qt data) (Vj (body.take w)) (body.drop w) []) tot
noncomputable def Q2a (data : Int → List UInt8 → Rd) (c : X5) (s : List UInt8) : Rd :=
 if s.length < c.Width.toNat then (Gg, 0, 3)
 else if s.length - c.Width.toNat < Vj (s.take c.Width.toNat) then (Gg, 0, 3)
 else Qms data c c.Width.toNat ((s.drop c.Width.toNat).take (Vj (s.take c.Width.toNat))) (c.Width.toNat + Vj (s.take c.Width.toNat))
noncomputable def Y8 : Nat → Int → List UInt8 → Rd
 | 0, code, s => if ofB code = false then (Gg, 0, 8) else if (ofS code).Items = false then Q7l code s else (Gg, 0, 14)
 | m + 1, code, s => if ofB code = false then (Gg, 0, 8) else if (ofS code).Items = false then Q7l code s
  else if (ofS code).Kind = 25 then Qev (Qt (Y8 m)) s else if (ofS code).Sized = false then (⟨(ofS code).Kind, 0, [], []⟩, 0, 0) else Q2a (Y8 m) (ofS code) s
def Qn8 (rd : List UInt8 → Rd) : Prop := ∀ s, s.length ≤ 600000 → (rd s).2.2 = 0 → 0 ≤ (rd s).2.1 ∧ (rd s).2.1 ≤ s.length ∧ (rd s).1.sz ≤ 1 + 1000 * (rd s).2.1.toNat
theorem Qra (b : UInt8) : IntKind.i64.wrap ((b.toNat : Nat) : Int) = ((b.toNat : Nat) : Int) := by
 have h : b.toNat < 256 := b.toNat_lt
 exact Qu _ (by omega)
theorem Q55 {text : List UInt8} {at' : Nat} (_h : at' ≤ text.length) (k : Nat) : (text.drop at').drop k = text.drop (at' + k) := by rw [List.drop_drop]
theorem Qck (N : Nat) (s : List UInt8) (i : Nat) (e : Int) (hi : i ≤ s.length) : Qs N ⟨s, i, e⟩ = some (s.drop i, ⟨s, i, e⟩) := by
 simp only [Qs, Qa]
 rw [if_pos (by simp), if_pos (by simp [Nat.ble_eq]; exact hi)]
 simp
theorem Qu1 (i : Nat) (h : i < 1000000000) : IntKind.u64.wrap ((i : Int) + 1) = ((i + 1 : Nat) : Int) := by
 rw [show ((i : Int) + 1) = ((i + 1 : Nat) : Int) by push_cast; rfl]; exact Vv _ (by omega)
theorem Q9e {R : List UInt8 → Int → Option Rd} {N : Nat} {c : X5} {most : Int} {v9 : (List UInt8) × Q3} {v11 : Int × Q3} {rd : List UInt8 → Rd} {text : List UInt8} {cnt tot : Nat}
  (hm : 1 ≤ most ∧ most ≤ 32) (ht : text.length ≤ 600000) (hc : cnt ≤ 1000) (h11 : v11.1 = (cnt : Int)) (h9 : v9.2.at' = (tot : Int)) (hN : 700000000 < N) (hR : ∀ s, s.length ≤ text.length → R s (most - 1) = some (rd s)) (hg : Qn8 rd) :
  ∀ (n i at' : Nat) (l : List Q0), i ≤ cnt → cnt - i < n → at' ≤ text.length → l.length = i → Q0.szs l ≤ i + 1000 * at' →
  Yx R N c most v9 v11 n (i : Int) text (at' : Int) 0 l = some (Qaj c.Kind 0 (X3 rd (cnt - i) (text.drop at') l) tot)
 | 0, i, at', l, _, h, _, _, _ => by omega
 | n + 1, i, at', l, hi, hn, ha, hl, hz => by
  simp only [Yx, Qa, Vg, Va, Uk, h11, Qck N text at' 0 ha, Option.bind_some, Qu (most - 1) (show _ by omega), hR (text.drop at') (by rw [List.length_drop]; omega)]
  by_cases hic : i < cnt
  ·rw [if_pos (by omega)]
   obtain ⟨k, hk⟩ : ∃ k, cnt - i = k + 1 := ⟨cnt - i - 1, by omega⟩
   rw [hk, X3]
   have hgd := hg (text.drop at') (by rw [List.length_drop]; omega)
   generalize hr : rd (text.drop at') = r at hgd ⊢
   obtain ⟨x, m, e⟩ := r
   simp only [] at hgd ⊢
   by_cases he : e = 0
   ·subst he
    obtain ⟨g1, g2, g3⟩ := hgd rfl
    rw [List.length_drop] at g2
    obtain ⟨mm, rfl⟩ := Int.eq_ofNat_of_zero_le g1
    rw [if_pos rfl, Q1u N text at' mm (by unfold Q7z; omega) ha (by omega), if_pos (by omega)]
    simp only [Option.bind_some]
    rw [if_neg (by decide), if_neg (by simp), if_pos (by simp [Nat.ble_eq]; omega), Qu1 i (by omega), if_neg (by simp)]
    have ih := Q9e (c := c) (v9 := v9) (tot := tot) hm ht hc h11 h9 hN hR hg n (i + 1) (at' + mm) (l ++ [x]) (by omega) (by omega) (by omega) (by simp [hl]) (by
     rw [Q0.szs_app]
     simp only [Q0.szs, Int.toNat_natCast] at g3 ⊢
     omega)
    rw [ih, show cnt - (i + 1) = k by omega, Q55 ha]
    simp only [Int.toNat_natCast]
   ·rw [if_neg he]
    rw [if_pos (show e ≠ 0 from he), if_pos (show e ≠ 0 from he), Qca he]
    by_cases h3 : e = 3
    ·rw [if_pos h3, if_pos h3]; rfl
    ·rw [if_neg h3, if_neg h3]; rfl
  ·rw [if_neg (by omega), show cnt - i = 0 by omega, X3, Q47 N text at' 0 ha]
   simp only [Option.bind_some]
   unfold Qaj
   simp only []
   rw [if_neg (show ¬ ((0 : Int) ≠ 0) by simp)]
   by_cases hrest : text.drop at' = []
   ·have : text.length - at' = 0 := by
     have := congrArg List.length hrest
     rw [List.length_drop] at this; simpa using this
    rw [if_neg (by omega), if_neg (by simp [hrest])]
    have hsz : Q0.sz ⟨c.Kind, 0, [], l⟩ = 1 + Q0.szs l := by rw [Q0.sz_eq]
    rw [Qbp N ⟨c.Kind, 0, [], l⟩ (by omega) (by omega)]
    simp only [Option.bind_some]
    split
    ·rfl
    ·simp only [Qi, Option.bind_some, h9]
   ·have : text.length - at' ≠ 0 := by
     intro h0
     exact hrest (List.drop_of_length_le (by omega))
    rw [if_pos (by omega), if_pos hrest]; rfl
theorem Q9r {R : List UInt8 → Int → Option Rd} {N : Nat} {c : X5} {most : Int} {v9 : (List UInt8) × Q3} {v11 : Int × Q3} {rd : List UInt8 → Rd} {text : List UInt8} {cnt tot : Nat}
  (hm : 1 ≤ most ∧ most ≤ 32) (ht : text.length ≤ 600000) (hc : cnt ≤ 1000) (h11 : v11.1 = (cnt : Int)) (h9 : v9.2.at' = (tot : Int)) (hN : 700000000 < N) (hR : ∀ s, s.length ≤ text.length → R s (most - 1) = some (rd s)) (hg : Qn8 rd) :
  ∀ (n i at' : Nat) (l : List Q0), i ≤ cnt → cnt - i < n → at' ≤ text.length → l.length = i → Q0.szs l ≤ i + 1000 * at' →
  Yt R N c most v9 v11 n (i : Int) text (at' : Int) 0 l = some (Qaj c.Kind 0 (X3 rd (cnt - i) (text.drop at') l) tot)
 | 0, i, at', l, _, h, _, _, _ => by omega
 | n + 1, i, at', l, hi, hn, ha, hl, hz => by
  simp only [Yt, Qa, Vg, Va, Uk, h11, Qck N text at' 0 ha, Option.bind_some, Qu (most - 1) (show _ by omega), hR (text.drop at') (by rw [List.length_drop]; omega)]
  by_cases hic : i < cnt
  ·rw [if_pos (by omega)]
   obtain ⟨k, hk⟩ : ∃ k, cnt - i = k + 1 := ⟨cnt - i - 1, by omega⟩
   rw [hk, X3]
   have hgd := hg (text.drop at') (by rw [List.length_drop]; omega)
   generalize hr : rd (text.drop at') = r at hgd ⊢
   obtain ⟨x, m, e⟩ := r
   simp only [] at hgd ⊢
   by_cases he : e = 0
   ·subst he
    obtain ⟨g1, g2, g3⟩ := hgd rfl
    rw [List.length_drop] at g2
    obtain ⟨mm, rfl⟩ := Int.eq_ofNat_of_zero_le g1
    rw [if_pos rfl, Q1u N text at' mm (by unfold Q7z; omega) ha (by omega), if_pos (by omega)]
    simp only [Option.bind_some]
    rw [if_neg (by decide), if_neg (by simp), if_pos (by simp [Nat.ble_eq]; omega), Qu1 i (by omega), if_neg (by simp)]
    have ih := Q9r (c := c) (v9 := v9) (tot := tot) hm ht hc h11 h9 hN hR hg n (i + 1) (at' + mm) (l ++ [x]) (by omega) (by omega) (by omega) (by simp [hl]) (by
     rw [Q0.szs_app]
     simp only [Q0.szs, Int.toNat_natCast] at g3 ⊢
     omega)
    rw [ih, show cnt - (i + 1) = k by omega, Q55 ha]
    simp only [Int.toNat_natCast]
   ·rw [if_neg he]
    rw [if_pos (show e ≠ 0 from he), if_pos (show e ≠ 0 from he), Qca he]
    by_cases h3 : e = 3
    ·rw [if_pos h3, if_pos h3]; rfl
    ·rw [if_neg h3, if_neg h3]; rfl
  ·rw [if_neg (by omega), show cnt - i = 0 by omega, X3, Q47 N text at' 0 ha]
   simp only [Option.bind_some]
   unfold Qaj
   simp only []
   rw [if_neg (show ¬ ((0 : Int) ≠ 0) by simp)]
   by_cases hrest : text.drop at' = []
   ·have : text.length - at' = 0 := by
     have := congrArg List.length hrest
     rw [List.length_drop] at this; simpa using this
    rw [if_neg (by omega), if_neg (by simp [hrest])]
    have hsz : Q0.sz ⟨c.Kind, 0, [], l⟩ = 1 + Q0.szs l := by rw [Q0.sz_eq]
    rw [Qbp N ⟨c.Kind, 0, [], l⟩ (by omega) (by omega)]
    simp only [Option.bind_some]
    split
    ·rfl
    ·simp only [Qi, Option.bind_some, h9]
   ·have : text.length - at' ≠ 0 := by
     intro h0
     exact hrest (List.drop_of_length_le (by omega))
    rw [if_pos (by omega), if_pos hrest]; rfl
theorem Q9j {R : List UInt8 → Int → Option Rd} {R2 : Int → List UInt8 → Int → Option Rd} {N : Nat} {c : X5} {most : Int} {v9 : (List UInt8) × Q3} {v11 : Int × Q3} {v23 : Int × Q3} {v25 : X5 × Bool} {rd : List UInt8 → Rd} {text : List UInt8} {cnt tot : Nat} {b : UInt8}
  (hm : 1 ≤ most ∧ most ≤ 32) (ht : text.length ≤ 600000) (hc : cnt ≤ 1000) (h11 : v11.1 = (cnt : Int)) (h9 : v9.2.at' = (tot : Int)) (h23 : v23.1 = (b.toNat : Int)) (h25 : 0 ≤ v25.1.Kind ∧ v25.1.Kind ≤ 25) (hN : 700000000 < N) (hR : ∀ s, s.length ≤ text.length → R2 (b.toNat : Int) s (most - 1) = some (rd s)) (hg : Qn8 rd) :
  ∀ (n i at' : Nat) (l : List Q0), i ≤ cnt → cnt - i < n → at' ≤ text.length → l.length = i → Q0.szs l ≤ i + 1000 * at' →
  Zg R R2 N c most v9 v11 v23 v25 n (i : Int) text (at' : Int) 0 l = some (Qaj c.Kind v25.1.Kind (X3 rd (cnt - i) (text.drop at') l) tot)
 | 0, i, at', l, _, h, _, _, _ => by omega
 | n + 1, i, at', l, hi, hn, ha, hl, hz => by
  have hb : b.toNat < 256 := b.toNat_lt
  have hkw : IntKind.u64.wrap v25.1.Kind = v25.1.Kind := by rw [Qc3]; omega
  simp only [Zg, Qa, Vg, Va, Uk, h11, h23, Qra, hkw, Qck N text at' 0 ha, Option.bind_some, Qu (most - 1) (show _ by omega), hR (text.drop at') (by rw [List.length_drop]; omega)]
  by_cases hic : i < cnt
  ·rw [if_pos (by omega), if_neg (by omega)]
   obtain ⟨k, hk⟩ : ∃ k, cnt - i = k + 1 := ⟨cnt - i - 1, by omega⟩
   rw [hk, X3]
   have hgd := hg (text.drop at') (by rw [List.length_drop]; omega)
   generalize hr : rd (text.drop at') = r at hgd ⊢
   obtain ⟨x, m, e⟩ := r
   simp only [] at hgd ⊢
   by_cases he : e = 0
   ·subst he
    obtain ⟨g1, g2, g3⟩ := hgd rfl
    rw [List.length_drop] at g2
    obtain ⟨mm, rfl⟩ := Int.eq_ofNat_of_zero_le g1
    rw [if_pos rfl, Q1u N text at' mm (by unfold Q7z; omega) ha (by omega), if_pos (by omega)]
    simp only [Option.bind_some]
    rw [if_neg (by decide), if_neg (by simp), if_pos (by simp [Nat.ble_eq]; omega), Qu1 i (by omega), if_neg (by simp)]
    have ih := Q9j (R := R) (c := c) (v9 := v9) (tot := tot) hm ht hc h11 h9 h23 h25 hN hR hg n (i + 1) (at' + mm) (l ++ [x]) (by omega) (by omega) (by omega) (by simp [hl]) (by
     rw [Q0.szs_app]
     simp only [Q0.szs, Int.toNat_natCast] at g3 ⊢
     omega)
    rw [ih, show cnt - (i + 1) = k by omega, Q55 ha]
    simp only [Int.toNat_natCast]
   ·rw [if_neg he]
    rw [if_pos (show e ≠ 0 from he), if_pos (show e ≠ 0 from he), Qca he]
    by_cases h3 : e = 3
    ·rw [if_pos h3, if_pos h3]; rfl
    ·rw [if_neg h3, if_neg h3]; rfl
  ·rw [if_neg (by omega), show cnt - i = 0 by omega, X3, Q47 N text at' 0 ha]
   simp only [Option.bind_some]
   unfold Qaj
   simp only []
   rw [if_neg (show ¬ ((0 : Int) ≠ 0) by simp)]
   by_cases hrest : text.drop at' = []
   ·have : text.length - at' = 0 := by
     have := congrArg List.length hrest
     rw [List.length_drop] at this; simpa using this
    rw [if_neg (by omega), if_neg (by simp [hrest])]
    have hsz : Q0.sz ⟨c.Kind, v25.1.Kind, [], l⟩ = 1 + Q0.szs l := by rw [Q0.sz_eq]
    rw [Qbp N ⟨c.Kind, v25.1.Kind, [], l⟩ (by omega) (by omega)]
    simp only [Option.bind_some]
    split
    ·rfl
    ·simp only [Qi, Option.bind_some, h9]
   ·have : text.length - at' ≠ 0 := by
     intro h0
     exact hrest (List.drop_of_length_le (by omega))
    rw [if_pos (by omega), if_pos hrest]; rfl
end
end Go.Av
namespace Go.Av
noncomputable section
open Go.Proofs
set_option maxRecDepth 100000
def Qnf (k : Int) : Bool := (Xp k).all (fun x => ofB x && (ofT x).1 == x && (ofT x).2.1 == k) && ((Xp k).zip (Xp k).tail).all (fun (x, y) => decide ((ofT x).2.2.1 ≤ (ofT y).2.2.1))
theorem Qkq : ((List.range 26).all fun k => Qnf k) = true := by decide +kernel
theorem Qlu (k : Int) : Qnf k = true := by
 by_cases h : k < 1 ∨ 25 < k
 ·simp [Qnf, Q3a k h]
 ·have := List.all_eq_true.1 Qkq k.toNat (by simp; omega)
  rwa [show ((k.toNat : Nat) : Int) = k by omega] at this
theorem G3 (k x : Int) (h : x ∈ Xp k) : ofB x = true ∧ (ofS x).Code = x ∧ (ofS x).Kind = k := by
 have := Qlu k
 simp only [Qnf, Bool.and_eq_true, List.all_eq_true] at this
 have := this.1 x h
 simp only [beq_iff_eq] at this
 exact ⟨this.1.1, this.1.2, this.2⟩
theorem Qw8 {a b : Int} {v : Q0} (ha : Jb a v = true) (hb : ofB b = true) (hk : (ofS b).Kind = v.Kind) (h0 : 0 < (ofS a).Width) (hw : (ofS a).Width ≤ (ofS b).Width) : Jb b v = true := by
 obtain ⟨f1, f2, f3, f4⟩ := Ju ha
 obtain ⟨c1, c2, c3, c4, c5, c6, c7⟩ := Vd f3
 have wa := Q6i a f1
 have wb := Q6i b hb
 have ia := Vx wa (by omega)
 have ib := Vx wb (by omega)
 simp only [Jb, hb, hk, f3, decide_true, Bool.true_and]
 unfold Q1a at f4 ⊢
 cases wa.shape ia with
 | sized w hs hw' h12 hk2 hc =>
  cases wb.shape ib with
  | sized w2 hs2 hw2 h2 hk3 hc2 =>
   rw [if_neg hc, hs, if_pos rfl] at f4
   rw [if_neg hc2, hs2, if_pos rfl]
   simp only [decide_eq_true_eq] at f4 ⊢
   omega
  | wide hs2 hw2 hk3 hc2 => omega
  | num w2 hs2 hw2 hh ht hc2 hbb =>
   have := Q20 (k := (ofS a).Kind) hk2
   rw [f2, ← hk, ht] at this; cases this
 | wide hs hw' hk2 hc =>
  cases wb.shape ib with
  | sized w2 hs2 hw2 h2 hk3 hc2 => omega
  | wide hs2 hw2 hk3 hc2 =>
   rw [if_neg hc2, hs2, hw2]; rfl
  | num w2 hs2 hw2 hh ht hc2 hbb =>
   have := Q6v (k := (ofS a).Kind) hk2
   rw [f2, ← hk, ht] at this; cases this
 | num w hs hw' hh ht hc hbb =>
  cases wb.shape ib with
  | sized w2 hs2 hw2 h2 hk3 hc2 =>
   have := Q20 hk3
   rw [hk, ← f2, ht] at this; cases this
  | wide hs2 hw2 hk3 hc2 =>
   have := Q6v hk3
   rw [hk, ← f2, ht] at this; cases this
  | num w2 hs2 hw2 hh2 ht2 hc2 hbb2 =>
   have h65 : (ofS a).Code ≠ 65 := fun h => by have := (hc h).1; omega
   have h65b : (ofS b).Code ≠ 65 := fun h => by have := (hc2 h).1; omega
   rw [if_neg h65, hs, if_neg (by simp), if_neg (by omega)] at f4
   rw [if_neg h65b, hs2, if_neg (by simp), if_neg (by omega)]
   split
   ·rw [if_pos (by omega)] at f4
    rw [hk, ← f2]; exact f4
   ·rfl
end
end Go.Av
namespace Go.Av
noncomputable section
open Go.Proofs
set_option maxRecDepth 100000
end
end Go.Av
namespace Go.Av
noncomputable section
open Go.Proofs
set_option maxRecDepth 100000
theorem Qkl {c : Int} {v : Q0} (h : Jb c v = true) : Qpd c v = (J1 (ofS c) v, 0) := by
 unfold Qpd
 rw [if_neg (show ¬ (Vn v ≠ 0) by simp [(Ju h).2.2.1]), h]; rfl
theorem Qxl {code : Int} {v : Q0} {k : Nat} (hf : Jb code v = true) (hk : k < (J1 (ofS code) v).length) : Q7l code ((J1 (ofS code) v).take k) = (Gg, 0, 3) := by
 have hlen := Q0r hf
 obtain ⟨f1, f2, f3, f4⟩ := Ju hf
 obtain ⟨c1, c2, c3, c4, c5, c6, c7⟩ := Vd f3
 have hw := Q6i code f1
 have hi := Vx hw (by omega)
 have hw0 : ((J1 (ofS code) v).take k).length = k := by rw [List.length_take]; omega
 unfold Q7l
 rw [f1, hi, if_neg (by simp), hw0]
 split
 ·rfl
 rename_i hkw
 cases hw.shape hi with
 | sized w hs hw' h12 hk2 hc =>
  simp only [hs, hw', if_true, Int.toNat_natCast] at hlen hkw ⊢
  have hkw : w ≤ k := by omega
  have e1 : ((J1 (ofS code) v).take k).take w = V8 v.Text.length w := by
   rw [List.take_take, Nat.min_eq_left hkw]
   unfold J1
   rw [hs, if_pos rfl, hw', Int.toNat_natCast, List.take_left' (Za _ _)]
  have e3 : v.Text.length % 256 ^ w = v.Text.length := by
   apply Nat.mod_eq_of_lt
   unfold Q1a at f4
   rw [if_neg hc, hs, if_pos rfl, hw'] at f4
   rcases h12 with rfl | rfl
   ·simp at f4; omega
   ·omega
  rw [e1, Q1k, e3, if_pos (by omega)]
 | wide hs hw' hk2 hc =>
  simp only [hs, hw', Bool.false_eq_true, if_false] at hlen hkw
  have : (16 : Int).toNat = 16 := rfl
  omega
 | num w hs hw' hh ht hc hbb =>
  simp only [hs, hw', Bool.false_eq_true, if_false] at hlen hkw
  omega
end
end Go.Av
namespace Go.Av
noncomputable section
open Go.Proofs
set_option maxRecDepth 100000
def Qqc (k : Int) : Bool := decide ((Xp k).Pairwise (fun x y => (ofT x).2.2.1 ≤ (ofT y).2.2.1))
theorem Qfy : ((List.range 26).all fun k => Qqc k) = true := by decide +kernel
theorem Qfn (k : Int) : (Xp k).Pairwise (fun x y => (ofS x).Width ≤ (ofS y).Width) := by
 by_cases h : k < 1 ∨ 25 < k
 ·rw [Q3a k h]; exact .nil
 ·have := List.all_eq_true.1 Qfy k.toNat (by simp; omega)
  rw [show ((k.toNat : Nat) : Int) = k by omega] at this
  exact of_decide_eq_true this
theorem longer {a b : Int} {v : Q0} (ha : Jb a v = true) (hb : Jb b v = true) (hw : (ofS a).Width ≤ (ofS b).Width) : (J1 (ofS a) v).length ≤ (J1 (ofS b) v).length := by
 rw [Q0r ha, Q0r hb]
 obtain ⟨f1, f2, f3, f4⟩ := Ju ha
 obtain ⟨g1, g2, g3, g4⟩ := Ju hb
 obtain ⟨c1, c2, _⟩ := Vd f3
 have wa := Q6i a f1
 have wb := Q6i b g1
 have hs : (ofS a).Sized = true → (ofS b).Sized = true := fun hs => by
  obtain ⟨_, q1, q2, _⟩ := wa.sized (Vx wa (by omega)) hs
  cases wb.shape (Vx wb (by omega)) with
  | sized w hs hw' h12 hk2 hc => exact hs
  | wide hs hw' hk2 hc => omega
  | num w hs hw' hh ht hc hbb =>
   have := Q20 (k := (ofS b).Kind) (by omega)
   rw [ht] at this; cases this
 cases h : (ofS a).Sized with
 | true => rw [hs h]; simp only [if_true]; omega
 | false => simp only [Bool.false_eq_true, if_false]; omega
end
end Go.Av
