/- The law. Part of a proof of a given statement: for every input the law returns true and the arguments read as before; no condition beyond the given row. -/
import Derived.Test.YtkemhhfbpniioaaGreatDoorLiftF5
import Derived.Test.YtkemhhfbpniioaaGreatDoorAvLift
import Derived.Test.YtkemhhfbpniioaaGreatDoorOks
namespace Go.Av
noncomputable section
open Go.Proofs
theorem Q6 {α : Type} (b : Bool) (x y : α) : cond b x y = if b = true then x else y := by cases b <;> rfl
@[simp] theorem Y6 (x y : Int) : (Q5 .lss x y = true) = (x < y) := by simp [Q5]
@[simp] theorem Q75 (x y : Int) : (Q5 .leq x y = true) = (x ≤ y) := by simp [Q5]
@[simp] theorem Q2c (x y : Int) : (Q5 .gtr x y = true) = (x > y) := by simp [Q5]
@[simp] theorem Qcc (x y : Int) : (Q5 .geq x y = true) = (x ≥ y) := by simp [Q5]
@[simp] theorem Wb (x y : Int) : (Q5 .eql x y = true) = (x = y) := by simp [Q5]
@[simp] theorem Wy (x y : Int) : (Q5 .neq x y = true) = (x ≠ y) := by simp [Q5]
theorem Qh (x : Int) (h : -9223372036854775808 ≤ x ∧ x ≤ 9223372036854775807) : IntKind.wrap .i64 x = x := IntWalk.i64_in x h
mutual
def Q0.sz : Q0 → Nat
 | .mk _ _ _ is => 1 + Q0.szs is
def Q0.szs : List Q0 → Nat
 | [] => 0
 | v :: l => v.sz + Q0.szs l
end
theorem Q0.sz_eq (v : Q0) : v.sz = 1 + Q0.szs v.Items := by cases v; simp [Q0.sz]
theorem Q0.szs_len : ∀ l : List Q0, l.length ≤ Q0.szs l
 | [] => by simp
 | v :: l => by
  have h1 := Q0.szs_len l
  have h2 := Q0.sz_eq v
  simp only [Q0.szs, List.length_cons]
  omega
theorem Q0.szs_mem : ∀ (l : List Q0) (v : Q0), v ∈ l → v.sz ≤ Q0.szs l
 | [], v, h => by cases h
 | u :: l, v, h => by
  simp only [Q0.szs]
  rcases List.mem_cons.1 h with rfl | h
  ·omega
  ·have := Q0.szs_mem l v h; omega
noncomputable instance : DecidableEq Q0 := fun a b => Classical.propDecidable (a = b)
theorem Qn (l : List Q0) : (Q0.rows l).length = l.length := by rw [Q0.rows_eq, Gq]
theorem Za {α : Type} (l : List α) (i : Nat) : idx l (i : Int) = l[i]? := rfl
theorem Qbs {R : Q0 → Q0 → Option Bool} {N : Nat} {a b : Q0} (hlen : a.Items.length = b.Items.length) (hb : a.Items.length < 4611686018427387904)
  (hR : ∀ y ∈ a.Items, ∀ z, R y z = some (decide (y = z))) : ∀ (n i : Nat), i ≤ a.Items.length → a.Items.length - i < n →
  Yn R N a b n (i : Int) = some (decide (a.Items.drop i = b.Items.drop i))
 | 0, i, _, h => by omega
 | n + 1, i, h1, h2 => by
  simp only [Yn, Q6, Y6, Qn]
  by_cases hi : i < a.Items.length
  ·rw [if_pos (by omega), Za, Za, List.getElem?_eq_getElem hi, List.getElem?_eq_getElem (show i < b.Items.length by omega)]
   simp only [Option.bind_some, hR _ (List.getElem_mem hi)]
   rw [Qh _ (by omega)]
   have ih := Qbs (N := N) hlen hb hR n (i + 1) (by omega) (by omega)
   rw [List.drop_eq_getElem_cons hi, List.drop_eq_getElem_cons (show i < b.Items.length by omega)]
   by_cases he : a.Items[i] = b.Items[i]
   ·rw [← he]; simp only [decide_true, Bool.not_true, Bool.false_eq_true, if_false, List.cons.injEq, true_and]
    exact_mod_cast ih
   ·have hne : ¬ (a.Items[i] :: List.drop (i + 1) a.Items = b.Items[i] :: List.drop (i + 1) b.Items) := fun e => he (List.cons.inj e).1
    simp only [he, decide_false, Bool.not_false, if_true]
    rw [decide_eq_false hne]
  ·rw [if_neg (by omega), List.drop_of_length_le (by omega), List.drop_of_length_le (by omega)]
   simp
theorem G4 (x y : List UInt8) : (Q3q .neq x y = true) = (x ≠ y) := by simp [Q3q]
theorem Qbt : ∀ (N : Nat) (a b : Q0), a.sz < N → a.sz < 1000000000 → Yq N a b = some (decide (a = b))
 | 0, a, b, h, _ => by have := a.sz_eq; omega
 | N + 1, a, b, h, h2 => by
  have hs := a.sz_eq
  have hl := Q0.szs_len a.Items
  simp only [Yq, Jf, Q6, Wy, G4, Qn]
  by_cases e1 : a.Kind = b.Kind
  ·by_cases e2 : a.N' = b.N'
   ·by_cases e3 : a.Text = b.Text
    ·by_cases e4 : a.Items.length = b.Items.length
     ·rw [if_neg (by simp [e1]), if_neg (by simp [e2]), if_neg (by simp [e3]), if_neg (by simp [e4])]
      have := Qbs (N := N) (R := Yq N) e4 (by omega) (fun y hy z => Qbt N y z (by have := Q0.szs_mem _ y hy; omega) (by have := Q0.szs_mem _ y hy; omega)) N 0 (by omega) (by omega)
      rw [show (0 : Int) = ((0 : Nat) : Int) from rfl, this]
      cases a; cases b; simp_all
     ·rw [if_neg (by simp [e1]), if_neg (by simp [e2]), if_neg (by simp [e3]), if_pos (by omega)]
      have : a ≠ b := fun e => e4 (by rw [e])
      simp [this]
    ·rw [if_neg (by simp [e1]), if_neg (by simp [e2]), if_pos (by simpa using e3)]
     have : a ≠ b := fun e => e3 (by rw [e])
     simp [this]
   ·rw [if_neg (by simp [e1]), if_pos (by simpa using e2)]
    have : a ≠ b := fun e => e2 (by rw [e])
    simp [this]
  ·rw [if_pos (by simpa using e1)]
   have : a ≠ b := fun e => e1 (by rw [e])
   simp [this]
end
end Go.Av
namespace Go.Av
noncomputable section
open Go.Proofs
mutual
def Q0.txt : Q0 → Prop
 | .mk _ _ t is => t.length ≤ 400 ∧ Q0.txts is
def Q0.txts : List Q0 → Prop
 | [] => True
 | v :: l => v.txt ∧ Q0.txts l
end
theorem Q0.txt_eq (v : Q0) : v.txt = (v.Text.length ≤ 400 ∧ Q0.txts v.Items) := by cases v; simp [Q0.txt]
theorem Q0.szs_app : ∀ l m : List Q0, Q0.szs (l ++ m) = Q0.szs l + Q0.szs m
 | [], m => by simp [Q0.szs]
 | v :: l, m => by simp [Q0.szs, Q0.szs_app l m]; omega
theorem Q0.txts_app : ∀ l m : List Q0, Q0.txts (l ++ m) = (Q0.txts l ∧ Q0.txts m)
 | [], m => by simp [Q0.txts]
 | v :: l, m => by simp [Q0.txts, Q0.txts_app l m, and_assoc]
theorem Qn9 {R : Q0 → Int → Int → Option Int} {N : Nat} {v : Q0} {deep most : Int} (hd : 0 ≤ deep ∧ deep ≤ 6) (hm : 0 ≤ most ∧ most ≤ 40) (hl : (v.Items.length : Int) ≤ most)
  (hR : ∀ y (m : Int), 0 ≤ m → m ≤ 40 → ∃ r, R y (deep - 1) m = some r ∧ 1 ≤ r ∧ r ≤ m + 1 ∧ (r ≤ m → r = y.sz ∧ y.txt)) : ∀ (n : Nat) (k : Int) (i : Nat), i ≤ v.Items.length → v.Items.length - i < n →
  1 ≤ k → k ≤ most + 1 → (k ≤ most → k = 1 + Q0.szs (v.Items.take i) ∧ Q0.txts (v.Items.take i)) →
  ∃ r, Wn R N v deep most n k (i : Int) = some r ∧ 1 ≤ r ∧ r ≤ most + 1 ∧ (r ≤ most → r = 1 + Q0.szs v.Items ∧ Q0.txts v.Items)
 | 0, _, _, _, h, _, _, _ => by omega
 | n + 1, k, i, h1, h2, hk1, hk2, hk3 => by
  simp only [Wn, Q6, Y6, Q75, Qn]
  by_cases hi : i < v.Items.length
  ·rw [if_pos (by omega)]
   by_cases hkm : k ≤ most
   ·rw [if_pos hkm, Za, List.getElem?_eq_getElem hi, Qh (deep - 1) (by omega), Qh (most - k) (by omega)]
    obtain ⟨r, r1, r2, r3, r4⟩ := hR v.Items[i] (most - k) (by omega) (by omega)
    simp only [Option.bind_some, r1]
    rw [Qh (k + r) (by omega), Qh ((i : Int) + 1) (by omega)]
    have := Qn9 (N := N) hd hm hl hR n (k + r) (i + 1) (by omega) (by omega) (by omega) (by omega) (fun h => by
     obtain ⟨q1, q2⟩ := r4 (by omega)
     obtain ⟨q3, q4⟩ := hk3 hkm
     rw [List.take_succ_eq_append_getElem hi, Q0.szs_app, Q0.txts_app]
     refine ⟨?_, q4, ?_⟩
     ·simp only [Q0.szs]; omega
     ·simp only [Q0.txts]; exact ⟨q2, trivial⟩)
    exact_mod_cast this
   ·rw [if_neg hkm]
    exact ⟨k, rfl, hk1, hk2, fun h => absurd h hkm⟩
  ·rw [if_neg (by omega)]
   refine ⟨k, rfl, hk1, hk2, fun h => ?_⟩
   have := hk3 h
   rwa [List.take_of_length_le (by omega)] at this
theorem Qfc : ∀ (N : Nat) (v : Q0) (deep most : Int), -1 ≤ deep → deep ≤ 6 → 0 ≤ most → most ≤ 40 → deep + 50 < N →
  ∃ r, Wz N v deep most = some r ∧ 1 ≤ r ∧ r ≤ most + 1 ∧ (r ≤ most → r = v.sz ∧ v.txt)
 | 0, v, deep, most, h1, h2, h3, h4, h5 => by omega
 | N + 1, v, deep, most, h1, h2, h3, h4, h5 => by
  simp only [Wz, Gx, Q6, Y6, Q2c, Qn, Qh (most + 1) (show _ by omega)]
  by_cases e1 : deep < 0
  ·rw [if_pos e1]; exact ⟨_, rfl, by omega, by omega, fun h => by omega⟩
  rw [if_neg e1]
  by_cases e2 : (v.Items.length : Int) > most
  ·rw [if_pos e2]; exact ⟨_, rfl, by omega, by omega, fun h => by omega⟩
  rw [if_neg e2]
  by_cases e3 : (v.Text.length : Int) > 400
  ·rw [if_pos e3]; exact ⟨_, rfl, by omega, by omega, fun h => by omega⟩
  rw [if_neg e3]
  have := Qn9 (N := N) (R := Wz N) (v := v) (deep := deep) (most := most) ⟨by omega, h2⟩ ⟨h3, h4⟩ (by omega)
   (fun y m hm1 hm2 => Qfc N y (deep - 1) m (by omega) (by omega) hm1 hm2 (by omega)) N 1 0 (by omega) (by omega) (by omega) (by omega) (fun _ => by simp [Q0.szs, Q0.txts])
  obtain ⟨r, r1, r2, r3, r4⟩ := this
  refine ⟨r, r1, r2, r3, fun h => ?_⟩
  obtain ⟨q1, q2⟩ := r4 h
  have hs := v.sz_eq
  rw [Q0.txt_eq]
  exact ⟨by omega, by omega, q2⟩
theorem Qpb (N : Nat) (v : Q0) (h : 60 < N) : ∃ b, V5 N v = some b ∧ (b = true → v.sz ≤ 40 ∧ v.txt) := by
 obtain ⟨r, r1, r2, r3, r4⟩ := Qfc N v 6 40 (by omega) (by omega) (by omega) (by omega) (by omega)
 refine ⟨Q5 .leq r 40, by simp [V5, r1], fun h => ?_⟩
 rw [Q75] at h
 obtain ⟨q1, q2⟩ := r4 h
 exact ⟨by omega, q2⟩
end
end Go.Av
namespace Go.Av
noncomputable section
open Go.Proofs
def Gj (k : Int) : Int × Bool :=
 if k = 2 then (1, false) else if k = 3 then (8, false) else if k = 4 then (16, false)
 else if k = 5 ∨ k = 11 ∨ k = 13 ∨ k = 16 then (32, false) else if k = 6 ∨ k = 12 ∨ k = 14 then (64, false)
 else if k = 7 then (8, true) else if k = 8 then (16, true) else if k = 9 then (32, true) else if k = 10 ∨ k = 17 then (64, true) else (0, false)
theorem Qlw (N : Nat) (k : Int) : Ga N k = some (Gj k) := by
 by_cases h2 : k = 2
 ·subst h2; rfl
 by_cases h3 : k = 3
 ·subst h3; rfl
 by_cases h4 : k = 4
 ·subst h4; rfl
 by_cases h5 : k = 5
 ·subst h5; rfl
 by_cases h11 : k = 11
 ·subst h11; rfl
 by_cases h13 : k = 13
 ·subst h13; rfl
 by_cases h16 : k = 16
 ·subst h16; rfl
 by_cases h6 : k = 6
 ·subst h6; rfl
 by_cases h12 : k = 12
 ·subst h12; rfl
 by_cases h14 : k = 14
 ·subst h14; rfl
 by_cases h7 : k = 7
 ·subst h7; rfl
 by_cases h8 : k = 8
 ·subst h8; rfl
 by_cases h9 : k = 9
 ·subst h9; rfl
 by_cases h10 : k = 10
 ·subst h10; rfl
 by_cases h17 : k = 17
 ·subst h17; rfl
 unfold Ga Gj
 simp [Q6, h2, h3, h4, h5, h11, h13, h16, h6, h12, h14, h7, h8, h9, h10, h17]
def Q30 (k : Int) : Bool := decide (k = 15 ∨ k = 18 ∨ k = 19 ∨ k = 20 ∨ k = 21)
theorem Qob (N : Nat) (k : Int) : Jj N k = some (Q30 k) := by
 unfold Jj Q30
 simp only [Q6, Wb]
 repeat' split
 all_goals simp_all
def Qf9 (n : Int) : Bool := decide (n ≤ 1114111 ∧ ¬ (55296 ≤ n ∧ n ≤ 57343))
theorem Qjg (N : Nat) (n : Int) (h0 : 0 ≤ n) : Jo N n = some (Qf9 n) := by
 unfold Jo Un Qf9
 simp only [Q6, Q75, Y6]
 by_cases h : n ≤ 1114111
 ·have hw : IntKind.wrap .i32 n = n := by
   simp only [IntKind.wrap, IntKind.bits, IntKind.signed]
   simp
   omega
  rw [if_pos h, hw]
  repeat' split
  all_goals (simp; omega)
 ·rw [if_neg h]
  simp [h]
def s64 (n : Int) : Int := if n < 9223372036854775808 then n else n - 18446744073709551616
theorem Que (n : Int) (h0 : 0 ≤ n) (h1 : n < 18446744073709551616) : IntKind.i64.wrap n = s64 n := by
 unfold s64
 split
 ·exact IntWalk.i64_in n (by omega)
 ·simp only [IntKind.wrap, IntKind.bits, IntKind.signed]
  simp
  omega
def Q1p (n bits : Int) (signed : Bool) : Bool := if signed then decide (-(2 ^ (bits.toNat - 1)) ≤ s64 n ∧ s64 n < 2 ^ (bits.toNat - 1)) else decide (n < 2 ^ bits.toNat)
theorem Qfj {m k : Nat} (h : m ≤ k) : (2 : Int) ^ m ≤ 2 ^ k := by
 have := Nat.pow_le_pow_right (n := 2) (by omega) h
 exact_mod_cast this
theorem two_pow_pos (m : Nat) : (1 : Int) ≤ 2 ^ m := by
 have := Nat.one_le_two_pow (n := m)
 exact_mod_cast this
theorem Qw9 (k : Int) (h0 : 0 ≤ k) (h1 : k ≤ 63) : IntKind.i64.wrap (-1 * 2 ^ min (IntKind.i64.wrap k).toNat IntKind.i64.bits) = -(2 ^ k.toNat) := by
 have e1 : IntKind.i64.wrap k = k := IntWalk.i64_in _ (by omega)
 have e2 : min k.toNat IntKind.i64.bits = k.toNat := by simp [IntKind.bits]; omega
 have h2 := Qfj (m := k.toNat) (k := 63) (by omega)
 have h3 := two_pow_pos k.toNat
 rw [e1, e2, IntWalk.i64_in _ (by omega)]
 omega
theorem Qel (N : Nat) (n bits : Int) (signed : Bool) (h0 : 0 ≤ n) (h1 : n < 18446744073709551616) (hb0 : 0 ≤ bits) (hb1 : bits ≤ 64) (hs : signed = true → 1 ≤ bits) :
  Uw N n bits signed = some (Q1p n bits signed) := by
 unfold Uw
 cases signed
 ·simp only [Q6, Wb, Bool.false_eq_true, if_false, decide_eq_true_eq]
  by_cases h : bits = 64
  ·rw [if_pos h]
   subst h
   simp only [Q1p, Bool.false_eq_true, if_false, Option.some.injEq]
   exact (decide_eq_true (by simpa using h1)).symm
  ·rw [if_neg h, if_pos hb0]
   simp only [Q1p, Bool.false_eq_true, if_false, Option.some.injEq, Q5, Q4e]
   have e2 : min bits.toNat IntKind.u64.bits = bits.toNat := by simp [IntKind.bits]; omega
   rw [e2, Bool.eq_iff_iff]
   simp only [beq_iff_eq, decide_eq_true_eq]
   have h3 := two_pow_pos bits.toNat
   rw [Int.fdiv_eq_ediv_of_nonneg _ (by omega)]
   constructor
   ·intro h4
    have := Int.lt_ediv_add_one_mul_self n (show (0 : Int) < 2 ^ bits.toNat by omega)
    rw [h4] at this
    simpa using this
   ·intro h4
    exact Int.ediv_eq_zero_of_lt h0 h4
 ·have hs := hs rfl
  have e1 : IntKind.i64.wrap (bits - 1) = bits - 1 := IntWalk.i64_in _ (by omega)
  have e2 := Qw9 (bits - 1) (by omega) (by omega)
  have e3 := Que n h0 h1
  have h2 := Qfj (m := (bits - 1).toNat) (k := 63) (by omega)
  have h3 := two_pow_pos (bits - 1).toNat
  have e4 : (bits - 1).toNat = bits.toNat - 1 := by omega
  rw [e1] at e2
  simp only [Q6, Qcc, if_true, decide_eq_true_eq, Q0d, e1, e2, e3]
  rw [if_pos (by omega), IntWalk.i64_in (-2 ^ (bits - 1).toNat + 1) (by omega), IntWalk.i64_in (0 - (-2 ^ (bits - 1).toNat + 1)) (by omega)]
  rw [e4] at h2 h3 ⊢
  split
  ·rename_i h
   simp only [Q1p, if_true, Option.some.injEq, Q5, decide_eq_decide]
   omega
  ·rename_i h
   simp only [Q1p, if_true, Option.some.injEq]
   exact (decide_eq_false (by omega)).symm
end
end Go.Av
namespace Go.Av
noncomputable section
def Q0o (s : List UInt8) : Nat := s.foldl (fun a b => a * 256 + b.toNat) 0
theorem Qac (s : List UInt8) (b : UInt8) : Q0o (s ++ [b]) = Q0o s * 256 + b.toNat := by simp [Q0o]
def Q05 : Nat → Nat → List UInt8
 | _, 0 => []
 | n, w + 1 => Q05 (n / 256) w ++ [UInt8.ofNat (n % 256)]
theorem Yk : ∀ (w n : Nat), (Q05 n w).length = w
 | 0, _ => rfl
 | w + 1, n => by simp [Q05, Yk w]
theorem Qcl : ∀ (w n : Nat), Q0o (Q05 n w) = n % 256 ^ w
 | 0, n => by simp [Q05, Q0o, Nat.mod_one]
 | w + 1, n => by
  rw [Q05, Qac, Qcl w, Nat.pow_succ, Nat.mul_comm (256 ^ w) 256, Nat.mod_mul]
  have : (UInt8.ofNat (n % 256)).toNat = n % 256 := by simp
  rw [this]; omega
theorem Qvn {α : Type} {P : List α → Prop} (h0 : P []) (h1 : ∀ s b, P s → P (s ++ [b])) (s : List α) : P s := by
 have h : ∀ t : List α, P t.reverse := by
  intro t
  induction t with
  | nil => exact h0
  | cons b t ih => rw [List.reverse_cons]; exact h1 _ _ ih
 have := h s.reverse
 rwa [List.reverse_reverse] at this
theorem Q2g : ∀ (s : List UInt8), Q0o s < 256 ^ s.length := by
 refine Qvn (by simp [Q0o]) (fun s b ih => ?_)
 ·rw [Qac, List.length_append, List.length_singleton, Nat.pow_succ]
  have := b.toNat_lt
  simp at this
  omega
theorem Qq9 : ∀ (s : List UInt8), Q05 (Q0o s) s.length = s := by
 refine Qvn rfl (fun s b ih => ?_)
 ·rw [Qac, List.length_append, List.length_singleton, Q05]
  have hb := b.toNat_lt
  simp at hb
  rw [show (Q0o s * 256 + b.toNat) / 256 = Q0o s by omega, ih, show (Q0o s * 256 + b.toNat) % 256 = b.toNat by omega]
  simp
theorem Qmx : ∀ (w n : Nat), Q05 (n % 256 ^ w) w = Q05 n w
 | 0, n => rfl
 | w + 1, n => by
  have h := Qmx w (n / 256)
  rw [Q05, Q05, Nat.pow_succ, Nat.mul_comm (256 ^ w) 256, Nat.mod_mul]
  rw [show (n % 256 + 256 * (n / 256 % 256 ^ w)) / 256 = n / 256 % 256 ^ w by omega, h, show (n % 256 + 256 * (n / 256 % 256 ^ w)) % 256 = n % 256 by omega]
end
end Go.Av
namespace Go.Av
noncomputable section
open Go.Proofs
def inB (s : List UInt8) (i lo hi : Nat) : Bool := match s[i]? with
 | some b => decide (lo ≤ b.toNat ∧ b.toNat ≤ hi)
 | none => false
def cpN (s : List UInt8) : Nat := match s with
 | [] => 0
 | c :: _ => if c.toNat < 128 then 1
  else if 194 ≤ c.toNat ∧ c.toNat ≤ 223 then (if inB s 1 128 191 then 2 else 0)
  else if c.toNat = 224 then (if inB s 1 160 191 && inB s 2 128 191 then 3 else 0)
  else if c.toNat = 237 then (if inB s 1 128 159 && inB s 2 128 191 then 3 else 0)
  else if 225 ≤ c.toNat ∧ c.toNat ≤ 239 then (if inB s 1 128 191 && inB s 2 128 191 then 3 else 0)
  else if c.toNat = 240 then (if inB s 1 144 191 && inB s 2 128 191 && inB s 3 128 191 then 4 else 0)
  else if 241 ≤ c.toNat ∧ c.toNat ≤ 243 then (if inB s 1 128 191 && inB s 2 128 191 && inB s 3 128 191 then 4 else 0)
  else if c.toNat = 244 then (if inB s 1 128 143 && inB s 2 128 191 && inB s 3 128 191 then 4 else 0)
  else 0
def Qam : Nat → List UInt8 → Bool
 | 0, s => s.isEmpty
 | n + 1, s => if s.isEmpty then true else match cpN s with
  | 0 => false
  | k + 1 => Qam n (s.drop (k + 1))
def J9 (s : List UInt8) : Bool := Qam s.length s
theorem Qjw : ∀ (n m : Nat) (s : List UInt8), s.length ≤ n → s.length ≤ m → Qam n s = Qam m s
 | 0, 0, s, _, _ => rfl
 | 0, m + 1, s, h, _ => by
  have : s = [] := List.length_eq_zero_iff.1 (by omega)
  subst this; simp [Qam]
 | n + 1, 0, s, _, h => by
  have : s = [] := List.length_eq_zero_iff.1 (by omega)
  subst this; simp [Qam]
 | n + 1, m + 1, s, h1, h2 => by
  simp only [Qam]
  cases s with
  | nil => rfl
  | cons c r =>
   simp only [List.isEmpty_cons, Bool.false_eq_true, if_false]
   split
   ·rfl
   ·exact Qjw n m _ (by simp at h1 ⊢; omega) (by simp at h2 ⊢; omega)
theorem Qpi : J9 [] = true := rfl
theorem Q79 (s : List UInt8) (hne : s ≠ []) (h : cpN s = 0) : J9 s = false := by
 cases s with
 | nil => exact absurd rfl hne
 | cons c r => unfold J9; simp only [List.length_cons, Qam, h]; rfl
theorem Q4w (s : List UInt8) (k : Nat) (h : cpN s = k + 1) : J9 s = J9 (s.drop (k + 1)) := by
 cases s with
 | nil => simp [cpN] at h
 | cons c r =>
  unfold J9
  simp only [List.length_cons, Qam, h, List.isEmpty_cons, Bool.false_eq_true, if_false]
  exact Qjw _ _ _ (by simp) (by simp)
theorem Q8t : ∀ (k : Nat) (s : List UInt8), (∀ b ∈ s.take k, b < 128) → J9 s = J9 (s.drop k)
 | 0, s, _ => by simp
 | k + 1, [], _ => by simp
 | k + 1, c :: r, h => by
  have hc : c < 128 := h c (by simp)
  have h1 : cpN (c :: r) = 1 := by simp only [cpN]; rw [if_pos (by exact hc)]
  rw [Q4w (c :: r) 0 h1]
  simpa using Q8t k r (fun b hb => h b (by simp [hb]))
def Q6u (s : List UInt8) : Bool := s.all fun b => decide (b.toNat < 128)
def Q8p (k n : Int) : Bool := Q1p n (Gj k).1 (Gj k).2 && (k != 16 || Qf9 n)
def Qk0 (k : Int) (t : List UInt8) : Int := if k = 20 then (if J9 t then 0 else 6) else if k = 21 then (if Q6u t then 0 else 6) else 0
def Vx (v : Q0) : Int :=
 if v.Kind < 1 ∨ 21 < v.Kind then 8
 else if Q8p v.Kind v.N' = false ∨ v.Items ≠ [] then 2
 else if Q30 v.Kind = false then (if v.Text ≠ [] then 2 else 0)
 else if (v.Kind = 15 ∨ v.Kind = 18) ∧ v.Text.length ≠ 16 then 2
 else if 1048576 < v.Text.length then 4 else Qk0 v.Kind v.Text
def Q6w (c : Qg) (v : Q0) : Bool :=
 if c.Code = 65 then decide (v.N' = 1) else if c.Sized then decide (c.Width = 4 ∨ v.Text.length ≤ 255)
 else if c.Width = 0 then decide (v.N' = 0) else if c.Width = 1 then Q1p v.N' 8 (Gj c.Kind).2 else true
def Q34 (code : Int) (v : Q0) : Bool := ofB code && decide ((ofS code).Kind = v.Kind) && decide (Vx v = 0) && Q6w (ofS code) v
def Q2e (c : Qg) (v : Q0) : List UInt8 :=
 if c.Sized then Q05 v.Text.length c.Width.toNat ++ v.Text else if c.Width = 16 then v.Text else Q05 v.N'.toNat c.Width.toNat
def Qsw (code : Int) (v : Q0) : List UInt8 × Int :=
 if Vx v ≠ 0 then ([], Vx v) else if Q34 code v = false then ([], 2) else (Q2e (ofS code) v, 0)
def Q0n (c : Qg) (n : Int) : Int := if (Gj c.Kind).2 = true ∧ 0 < c.Width ∧ 2 ^ (8 * c.Width.toNat - 1) ≤ n then n + (18446744073709551616 - 2 ^ (8 * c.Width.toNat)) else n
def Q2m : Q0 := ⟨0, 0, [], []⟩
def Qpe (v : Q0) (n : Int) : Q0 × Int × Int := if Vx v = 0 then (v, n, 0) else (Q2m, 0, if Vx v = 2 then 5 else Vx v)
def Qco (code : Int) (s : List UInt8) : Q0 × Int × Int :=
 if ofB code = false ∨ (ofS code).Items = true then (Q2m, 0, 8)
 else if (s.length : Int) < (ofS code).Width then (Q2m, 0, 3)
 else if (ofS code).Sized = true then
  if s.length - (ofS code).Width.toNat < Q0o (s.take (ofS code).Width.toNat) then (Q2m, 0, 3)
  else Qpe ⟨(ofS code).Kind, 0, (s.drop (ofS code).Width.toNat).take (Q0o (s.take (ofS code).Width.toNat)), []⟩ ((ofS code).Width + Q0o (s.take (ofS code).Width.toNat))
 else if (ofS code).Width = 16 then Qpe ⟨(ofS code).Kind, 0, s.take 16, []⟩ 16
 else if (ofS code).Code = 65 then Qpe ⟨(ofS code).Kind, 1, [], []⟩ 0
 else Qpe ⟨(ofS code).Kind, Q0n (ofS code) (Q0o (s.take (ofS code).Width.toNat)), [], []⟩ (ofS code).Width
end
end Go.Av
namespace Go.Av
noncomputable section
open Go.Proofs
set_option maxRecDepth 100000
def Gp : List UInt8 → Nat
 | [] => 0
 | b :: r => b.toNat + 256 * Gp r
theorem Qn2 : ∀ (s : List UInt8) (k : Nat), s.length ≤ k → Gp s < 256 ^ k
 | [], k, _ => Nat.pow_pos (by omega)
 | b :: r, 0, h => by simp at h
 | b :: r, k + 1, h => by
  have h1 := Qn2 r k (by simpa using h)
  have h2 : b.toNat < 256 := b.toNat_lt
  rw [Gp, Nat.pow_succ]
  omega
theorem Qeo (a b : Nat) (n m : Nat) (ha : a < 2 ^ n) (hb : b < 2 ^ m) (hn : n + m ≤ 64) :
  IntKind.u64.wrap (((BitVec.ofInt IntKind.u64.bits (a : Int) ||| BitVec.ofInt IntKind.u64.bits (IntKind.u64.wrap ((b : Int) * 2 ^ min n IntKind.u64.bits))).toNat : Nat) : Int) = ((a + 2 ^ n * b : Nat) : Int) := by
 have h64 : IntKind.u64.bits = 64 := rfl
 have hw : ∀ z : Int, IntKind.u64.wrap z = z % 18446744073709551616 := fun z => by simp [IntKind.wrap, IntKind.bits, IntKind.signed]
 have hnn : min n 64 = n := by omega
 have hp : 2 ^ n * b < 2 ^ 64 := by
  calc 2 ^ n * b < 2 ^ n * 2 ^ m := Nat.mul_lt_mul_of_pos_left hb (Nat.two_pow_pos n)
   _ = 2 ^ (n + m) := (Nat.pow_add 2 n m).symm
   _ ≤ 2 ^ 64 := Nat.pow_le_pow_right (by omega) hn
 have ha64 : a < 2 ^ 64 := Nat.lt_of_lt_of_le ha (Nat.pow_le_pow_right (by omega) (by omega))
 have e1 : ((b : Int) * 2 ^ n) = ((2 ^ n * b : Nat) : Int) := by push_cast; exact Int.mul_comm _ _
 rw [h64, hnn, e1, hw, hw]
 have e2 : ((2 ^ n * b : Nat) : Int) % 18446744073709551616 = ((2 ^ n * b : Nat) : Int) := by
  rw [Int.emod_eq_of_lt (by omega) (by have : (2 : Nat) ^ 64 = 18446744073709551616 := rfl; omega)]
 rw [e2, BitVec.ofInt_natCast, BitVec.ofInt_natCast, BitVec.toNat_or, BitVec.toNat_ofNat, BitVec.toNat_ofNat, Nat.mod_eq_of_lt ha64, Nat.mod_eq_of_lt hp]
 have e3 : a ||| 2 ^ n * b = a + 2 ^ n * b := by
  have := Nat.shiftLeft_add_eq_or_of_lt ha b
  rw [Nat.shiftLeft_eq, Nat.mul_comm] at this
  rw [Nat.or_comm, ← this, Nat.add_comm]
 rw [e3]
 have e4 : a + 2 ^ n * b < 18446744073709551616 := by
  have hb2 : b + 1 ≤ 2 ^ m := hb
  have : 2 ^ n * (b + 1) ≤ 2 ^ n * 2 ^ m := Nat.mul_le_mul_left _ hb2
  rw [← Nat.pow_add] at this
  have h5 : 2 ^ (n + m) ≤ 2 ^ 64 := Nat.pow_le_pow_right (by omega) hn
  rw [Nat.mul_add, Nat.mul_one] at this
  have : (2 : Nat) ^ 64 = 18446744073709551616 := rfl
  omega
 rw [Int.emod_eq_of_lt (by omega) (by omega)]
theorem Qui (b : UInt8) : IntKind.u64.wrap ((b.toNat : Nat) : Int) = ((b.toNat : Nat) : Int) := by
 have := b.toNat_lt
 simp only [IntKind.wrap, IntKind.bits, IntKind.signed]
 simp
 omega
theorem Qxl (N : Nat) (b0 b1 b2 b3 b4 b5 b6 b7 : UInt8) (r : List UInt8) : Qu N (b0 :: b1 :: b2 :: b3 :: b4 :: b5 :: b6 :: b7 :: r) = some (Gp [b0, b1, b2, b3, b4, b5, b6, b7] : Nat) := by
 have l0 := b0.toNat_lt; have l1 := b1.toNat_lt; have l2 := b2.toNat_lt; have l3 := b3.toNat_lt
 have l4 := b4.toNat_lt; have l5 := b5.toNat_lt; have l6 := b6.toNat_lt; have l7 := b7.toNat_lt
 show some _ = some _
 simp only [orI, Q0d, Qui]
 have t8 : Int.toNat 8 = 8 := rfl
 have t16 : Int.toNat 16 = 16 := rfl
 have t24 : Int.toNat 24 = 24 := rfl
 have t32 : Int.toNat 32 = 32 := rfl
 have t40 : Int.toNat 40 = 40 := rfl
 have t48 : Int.toNat 48 = 48 := rfl
 have t56 : Int.toNat 56 = 56 := rfl
 rw [t8, t16, t24, t32, t40, t48, t56]
 rw [Qeo b0.toNat b1.toNat 8 8 l0 l1 (by omega)]
 rw [Qeo _ b2.toNat 16 8 (by omega) l2 (by omega)]
 rw [Qeo _ b3.toNat 24 8 (by omega) l3 (by omega)]
 rw [Qeo _ b4.toNat 32 8 (by omega) l4 (by omega)]
 rw [Qeo _ b5.toNat 40 8 (by omega) l5 (by omega)]
 rw [Qeo _ b6.toNat 48 8 (by omega) l6 (by omega)]
 rw [Qeo _ b7.toNat 56 8 (by omega) l7 (by omega)]
 simp only [Gp, Option.some.injEq]
 omega
theorem Q3p (N : Nat) (s : List UInt8) (h : 8 ≤ s.length) : Qu N s = some ((Gp (s.take 8) : Nat) : Int) := by
 match s, h with
 | b0 :: b1 :: b2 :: b3 :: b4 :: b5 :: b6 :: b7 :: r, _ => exact Qxl N b0 b1 b2 b3 b4 b5 b6 b7 r
theorem Qkm : ∀ (s : List UInt8) (m : Nat), m = Gp (List.replicate s.length 128) → (Gp s &&& m = 0 ↔ ∀ b ∈ s, b < 128)
 | [], m, h => by subst h; simp [Gp]
 | b :: r, m, h => by
  have ih := Qkm r _ rfl
  have hb0 : ∀ n, n < 256 → (n &&& 128 = 0 ↔ n < 128) := by decide
  have hb : ∀ c : UInt8, c.toNat &&& 128 = 0 ↔ c < 128 := fun c => (hb0 c.toNat c.toNat_lt).trans Iff.rfl
  rw [List.length_cons, List.replicate_succ, Gp] at h
  generalize Gp (List.replicate r.length 128) = q at h ih
  have e1 : (128 : UInt8).toNat = 128 := rfl
  rw [e1] at h
  have key : ∀ z : Nat, z = 0 ↔ z % 2 ^ 8 = 0 ∧ z / 2 ^ 8 = 0 := fun z => by omega
  have hlt := b.toNat_lt
  rw [Gp, h, key, Nat.and_mod_two_pow, Nat.and_div_two_pow]
  have d1 : (b.toNat + 256 * Gp r) % 2 ^ 8 = b.toNat := by omega
  have d2 : (128 + 256 * q) % 2 ^ 8 = 128 := by omega
  have d3 : (b.toNat + 256 * Gp r) / 2 ^ 8 = Gp r := by omega
  have d4 : (128 + 256 * q) / 2 ^ 8 = q := by omega
  rw [d1, d2, d3, d4, hb, ih]
  simp
theorem U5 (n : Nat) (h : n < 18446744073709551616) : IntKind.u64.wrap (n : Int) = n := by
 simp only [IntKind.wrap, IntKind.bits, IntKind.signed]
 simp; omega
theorem Q6e (a b : Nat) (ha : a < 18446744073709551616) (hb : b < 18446744073709551616) : Q2t .u64 (a : Int) (b : Int) = ((a &&& b : Nat) : Int) := by
 have hl : a &&& b ≤ a := Nat.and_le_left
 have h64 : IntKind.u64.bits = 64 := rfl
 have p64 : (2 : Nat) ^ 64 = 18446744073709551616 := rfl
 simp only [Q2t]
 rw [h64, BitVec.ofInt_natCast, BitVec.ofInt_natCast, BitVec.toNat_and, BitVec.toNat_ofNat, BitVec.toNat_ofNat, Nat.mod_eq_of_lt (by omega), Nat.mod_eq_of_lt (by omega), U5 _ (by omega)]
theorem Qdk (a b : Nat) (ha : a < 18446744073709551616) (hb : b < 18446744073709551616) : orI .u64 (a : Int) (b : Int) = ((a ||| b : Nat) : Int) ∧ (a ||| b) < 18446744073709551616 := by
 have h64 : IntKind.u64.bits = 64 := rfl
 have p64 : (2 : Nat) ^ 64 = 18446744073709551616 := rfl
 have hl : a ||| b < 2 ^ 64 := Nat.or_lt_two_pow (by omega) (by omega)
 simp only [orI]
 rw [h64, BitVec.ofInt_natCast, BitVec.ofInt_natCast, BitVec.toNat_or, BitVec.toNat_ofNat, BitVec.toNat_ofNat, Nat.mod_eq_of_lt (by omega), Nat.mod_eq_of_lt (by omega), U5 _ (by omega)]
 exact ⟨rfl, by omega⟩
theorem Qhu (a b m : Nat) : (a ||| b) &&& m = 0 ↔ a &&& m = 0 ∧ b &&& m = 0 := by
 rw [Nat.and_or_distrib_right]
 constructor
 ·intro h
  have h1 : a &&& m ≤ (a &&& m) ||| (b &&& m) := Nat.left_le_or
  have h2 : b &&& m ≤ (a &&& m) ||| (b &&& m) := Nat.right_le_or
  omega
 ·rintro ⟨h1, h2⟩; rw [h1, h2]; rfl
theorem Q8q (s : List UInt8) : Gp (s.take 8) < 18446744073709551616 := by
 have := Qn2 (s.take 8) 8 (by simp; omega)
 simpa using this
def M8 : Nat := 9259542123273814144
theorem Z02 (s : List UInt8) (h : 8 ≤ s.length) : Gp (s.take 8) &&& M8 = 0 ↔ ∀ b ∈ s.take 8, b < 128 := Qkm _ _ (by rw [List.length_take, Nat.min_eq_left h]; rfl)
theorem Qwx (s : List UInt8) (h : 8 ≤ s.length) (hm : Gp (s.take 8) &&& M8 = 0) : J9 s = J9 (s.drop 8) := Q8t 8 s ((Z02 s h).1 hm)
theorem Z03 (s : List UInt8) : (Q2t .u64 ((Gp (s.take 8) : Nat) : Int) 9259542123273814144 = 0) = (Gp (s.take 8) &&& M8 = 0) := by
 have h1 := Q8q s
 rw [show (9259542123273814144 : Int) = ((M8 : Nat) : Int) from rfl, Q6e _ _ h1 (by decide)]
 apply propext; omega
theorem Z01 (s t : List UInt8) : (Q2t .u64 (orI .u64 ((Gp (s.take 8) : Nat) : Int) ((Gp (t.take 8) : Nat) : Int)) 9259542123273814144 = 0) = (Gp (s.take 8) &&& M8 = 0 ∧ Gp (t.take 8) &&& M8 = 0) := by
 obtain ⟨h1, h2⟩ := Qdk _ _ (Q8q s) (Q8q t)
 rw [h1, show (9259542123273814144 : Int) = ((M8 : Nat) : Int) from rfl, Q6e _ _ h2 (by decide)]
 rw [← Qhu]
 apply propext; omega
theorem Z0m (s t u v : List UInt8) : (Q2t .u64 (orI .u64 (orI .u64 ((Gp (s.take 8) : Nat) : Int) ((Gp (t.take 8) : Nat) : Int)) (orI .u64 ((Gp (u.take 8) : Nat) : Int) ((Gp (v.take 8) : Nat) : Int))) 9259542123273814144 = 0) =
  (Gp (s.take 8) &&& M8 = 0 ∧ Gp (t.take 8) &&& M8 = 0 ∧ Gp (u.take 8) &&& M8 = 0 ∧ Gp (v.take 8) &&& M8 = 0) := by
 obtain ⟨h1, h2⟩ := Qdk _ _ (Q8q s) (Q8q t)
 obtain ⟨h3, h4⟩ := Qdk _ _ (Q8q u) (Q8q v)
 obtain ⟨h5, h6⟩ := Qdk _ _ h2 h4
 rw [h1, h3, h5, show (9259542123273814144 : Int) = ((M8 : Nat) : Int) from rfl, Q6e _ _ h6 (by decide)]
 rw [show (Gp (s.take 8) &&& M8 = 0 ∧ Gp (t.take 8) &&& M8 = 0 ∧ Gp (u.take 8) &&& M8 = 0 ∧ Gp (v.take 8) &&& M8 = 0) = ((Gp (s.take 8) ||| Gp (t.take 8) ||| (Gp (u.take 8) ||| Gp (v.take 8))) &&& M8 = 0) by
  rw [Qhu, Qhu, Qhu]; apply propext; simp only [and_assoc]]
 apply propext; omega
theorem Qza (N : Nat) (k0 : List UInt8 → Option Bool) : ∀ (n : Nat) (s : List UInt8), s.length < n → (∀ t, t.length ≤ s.length → k0 t = some (J9 t)) → Zw N k0 n s = some (J9 s)
 | 0, s, h, _ => by omega
 | n + 1, s, h, hk => by
  simp only [Zw, Q6, Q2c, Wb, List.take_length, Nat.ble_eq, Bool.and_eq_true, Nat.le_refl, and_true]
  by_cases hl : (s.length : Int) > 32
  ·rw [if_pos hl, Q3p N s (by omega)]
   simp only [Option.bind_some]
   rw [if_pos (by omega), Q3p N _ (by rw [List.length_drop]; omega)]
   simp only [Option.bind_some]
   rw [if_pos (by omega), Q3p N _ (by rw [List.length_drop]; omega)]
   simp only [Option.bind_some]
   rw [if_pos (by omega), Q3p N _ (by rw [List.length_drop]; omega)]
   simp only [Option.bind_some, Z0m]
   split
   ·rename_i hm
    obtain ⟨m1, m2, m3, m4⟩ := hm
    rw [if_pos (by omega), Qza N k0 n (s.drop 32) (by rw [List.length_drop]; omega) (fun t ht => hk t (by rw [List.length_drop] at ht; omega))]
    have e1 := Qwx s (by omega) m1
    have e2 := Qwx (s.drop 8) (by rw [List.length_drop]; omega) m2
    rw [List.drop_drop] at e2
    have e3 := Qwx (s.drop 16) (by rw [List.length_drop]; omega) m3
    rw [List.drop_drop] at e3
    have e4 := Qwx (s.drop 24) (by rw [List.length_drop]; omega) m4
    rw [List.drop_drop] at e4
    rw [e1, e2, e3, e4]
   ·exact hk s (Nat.le_refl _)
  ·rw [if_neg hl]; exact hk s (Nat.le_refl _)
def Qi5 (n : Nat) : Nat := Go.Pinned.utf8FirstZ.getD n 0
theorem Qx3 (n : Nat) (h : n < 256) : idx gtab0 (n : Int) = some (Qi5 n : Int) := by
 have hl : Go.Pinned.utf8FirstZ.length = 256 := by rfl
 rw [Za, gtab0, List.getElem?_map, Qi5, List.getD_eq_getElem?_getD, List.getElem?_eq_getElem (by omega)]
 rfl
def Z1h (n : Nat) : Bool := (Qi5 n == 241 && (decide (n < 194) || decide (244 < n))) || (Qi5 n == 2 && decide (194 ≤ n) && decide (n ≤ 223)) || (Qi5 n == 19 && n == 224) || (Qi5 n == 3 && decide (225 ≤ n) && decide (n ≤ 239) && n != 237) || (Qi5 n == 35 && n == 237) ||
  (Qi5 n == 52 && n == 240) || (Qi5 n == 4 && decide (241 ≤ n) && decide (n ≤ 243)) || (Qi5 n == 68 && n == 244)
set_option maxRecDepth 100000 in
theorem Qy3 : ((List.range 256).all fun n => decide (n < 128) || Z1h n) = true := by decide +kernel
theorem cls (n : Nat) (h : n < 256) (h2 : 128 ≤ n) : (Qi5 n = 241 ∧ (n < 194 ∨ 244 < n)) ∨ (Qi5 n = 2 ∧ 194 ≤ n ∧ n ≤ 223) ∨ (Qi5 n = 19 ∧ n = 224) ∨ (Qi5 n = 3 ∧ 225 ≤ n ∧ n ≤ 239 ∧ n ≠ 237) ∨ (Qi5 n = 35 ∧ n = 237) ∨
  (Qi5 n = 52 ∧ n = 240) ∨ (Qi5 n = 4 ∧ 241 ≤ n ∧ n ≤ 243) ∨ (Qi5 n = 68 ∧ n = 244) := by
 have := List.all_eq_true.1 Qy3 n (by simpa using h)
 simp only [Bool.or_eq_true, decide_eq_true_eq] at this
 rcases this with h3 | h3
 ·omega
 ·simp only [Z1h, Bool.or_eq_true, Bool.and_eq_true, beq_iff_eq, decide_eq_true_eq, bne_iff_ne, ne_eq] at h3
  rcases h3 with ((((((h | h) | h) | h) | h) | h) | h) | h
  ·exact .inl h
  ·exact .inr (.inl ⟨h.1.1, h.1.2, h.2⟩)
  ·exact .inr (.inr (.inl h))
  ·exact .inr (.inr (.inr (.inl ⟨h.1.1.1, h.1.1.2, h.1.2, h.2⟩)))
  ·exact .inr (.inr (.inr (.inr (.inl h))))
  ·exact .inr (.inr (.inr (.inr (.inr (.inl h)))))
  ·exact .inr (.inr (.inr (.inr (.inr (.inr (.inl ⟨h.1.1, h.1.2, h.2⟩))))))
  ·exact .inr (.inr (.inr (.inr (.inr (.inr (.inr h))))))
theorem Qz9 (N n : Nat) (c : UInt8) (r : List UInt8) (hc : c.toNat < 128) (_hn : r.length < n) (hN : r.length < N) (ih : ∀ t, t.length ≤ r.length → Qa N n t = some (J9 t)) :
  Qa N (n + 1) (c :: r) = some (J9 (c :: r)) := by
 have hstep : J9 (c :: r) = J9 r := Q8t 1 (c :: r) (fun b hb => by simp at hb; subst hb; exact hc)
 rw [hstep]
 simp only [Qa, Q6, Q2c, Wb, Y6, List.take_length, Nat.ble_eq, Bool.and_eq_true, Nat.le_refl, and_true]
 rw [if_pos (by simp only [List.length_cons]; omega), show idx (c :: r) 0 = some c from rfl]
 simp only [Option.bind_some]
 rw [if_pos (by omega), if_pos (by simp)]
 simp only [List.drop_one, List.tail_cons]
 by_cases h8 : (r.length : Int) > 8
 ·rw [if_pos h8, Q3p N r (by omega)]
  simp only [Option.bind_some, Z03]
  split
  ·rename_i hm
   rw [Qwx r (by omega) hm, if_pos (by omega)]
   split
   ·rename_i h16
    rw [Q3p N _ (by omega)]
    simp only [Option.bind_some]
    rw [if_pos (by omega), Q3p N _ (by simp only [List.length_drop] at h16 ⊢; omega)]
    simp only [Option.bind_some, Z01]
    split
    ·rename_i hm2
     rw [if_pos (by omega), Qza N _ N _ (by simp only [List.length_drop]; omega) (fun t ht => ih t (by simp only [List.length_drop] at ht; omega))]
     rw [Qwx (r.drop 8) (by simp only [List.length_drop] at h16 ⊢; omega) hm2.1, Qwx ((r.drop 8).drop 8) (by simp only [List.length_drop] at h16 ⊢; omega) hm2.2, List.drop_drop (l := r.drop 8)]
    ·exact ih _ (by simp only [List.length_drop]; omega)
   ·exact ih _ (by simp only [List.length_drop]; omega)
  ·exact ih _ (Nat.le_refl _)
 ·rw [if_neg h8]; exact ih _ (Nat.le_refl _)
end
end Go.Av
namespace Go.Av
noncomputable section
open Go.Proofs
set_option maxRecDepth 100000
theorem Qov {s : List UInt8} {i lo hi : Nat} {b : UInt8} (h : s[i]? = some b) (h1 : lo ≤ b.toNat) (h2 : b.toNat ≤ hi) : inB s i lo hi = true := by simp [inB, h, h1, h2]
theorem Qc8 {s : List UInt8} {i lo hi : Nat} {b : UInt8} (h : s[i]? = some b) (h1 : ¬ (lo ≤ b.toNat ∧ b.toNat ≤ hi)) : inB s i lo hi = false := by simp only [inB, h, decide_eq_false h1]
theorem Qot {s : List UInt8} {i lo hi : Nat} (h : s[i]? = none) : inB s i lo hi = false := by simp [inB, h]
theorem Qxm {X : List UInt8 → Option Bool} (c : UInt8) (r : List UInt8) (lo hi : Int) (lo' hi' : Nat) (e1 : lo = lo') (e2 : hi = hi') (hX : ∀ t, t.length ≤ r.length → X t = some (J9 t))
  (hcp : cpN (c :: r) = if inB (c :: r) 1 lo' hi' then 2 else 0) :
  (if ((c :: r).length : Int) < 2 then some false else (idx (c :: r) 1).bind fun b => if (b.toNat : Int) < lo then some false else (idx (c :: r) 1).bind fun b2 => if hi < (b2.toNat : Int) then some false else
   if 2 ≤ (c :: r).length then X ((c :: r).drop 2) else none) = some (J9 (c :: r)) := by
 subst e1 e2
 have bad : cpN (c :: r) = 0 → some false = some (J9 (c :: r)) := fun h => by rw [Q79 _ (by simp) h]
 match r, hX, hcp, bad with
 | [], hX, hcp, bad =>
  rw [if_pos (by simp)]
  exact bad (by rw [hcp, Qot (by simp)]; rfl)
 | d :: t, hX, hcp, bad =>
  rw [if_neg (by simp only [List.length_cons]; omega), show idx (c :: d :: t) 1 = some d from rfl]
  simp only [Option.bind_some]
  by_cases h1 : (d.toNat : Int) < lo'
  ·rw [if_pos h1]; exact bad (by rw [hcp, Qc8 (b := d) rfl (by omega)]; rfl)
  rw [if_neg h1]
  by_cases h2 : (hi' : Int) < d.toNat
  ·rw [if_pos h2]; exact bad (by rw [hcp, Qc8 (b := d) rfl (by omega)]; rfl)
  rw [if_neg h2, if_pos (by simp)]
  have hc : cpN (c :: d :: t) = 2 := by rw [hcp, Qov (b := d) rfl (by omega) (by omega)]; rfl
  rw [Q4w _ 1 hc]
  exact hX _ (by simp)
theorem Qlu {X : List UInt8 → Option Bool} (c : UInt8) (r : List UInt8) (lo hi : Int) (lo' hi' : Nat) (e1 : lo = lo') (e2 : hi = hi') (hX : ∀ t, t.length ≤ r.length → X t = some (J9 t))
  (hcp : cpN (c :: r) = if inB (c :: r) 1 lo' hi' && inB (c :: r) 2 128 191 then 3 else 0) :
  (if ((c :: r).length : Int) < 3 then some false else (idx (c :: r) 1).bind fun b => if (b.toNat : Int) < lo then some false else (idx (c :: r) 1).bind fun b2 => if hi < (b2.toNat : Int) then some false else
   (idx (c :: r) 2).bind fun b3 => if (b3.toNat : Int) < 128 then some false else (idx (c :: r) 2).bind fun b4 => if 191 < (b4.toNat : Int) then some false else
   if 3 ≤ (c :: r).length then X ((c :: r).drop 3) else none) = some (J9 (c :: r)) := by
 subst e1 e2
 have bad : cpN (c :: r) = 0 → some false = some (J9 (c :: r)) := fun h => by rw [Q79 _ (by simp) h]
 match r, hX, hcp, bad with
 | [], hX, hcp, bad =>
  rw [if_pos (by simp)]
  exact bad (by rw [hcp, Qot (by simp)]; rfl)
 | [d], hX, hcp, bad =>
  rw [if_pos (by simp)]
  exact bad (by rw [hcp, Qot (i := 2) (by simp)]; simp)
 | d :: e :: t, hX, hcp, bad =>
  rw [if_neg (by simp only [List.length_cons]; omega), show idx (c :: d :: e :: t) 1 = some d from rfl, show idx (c :: d :: e :: t) 2 = some e from rfl]
  simp only [Option.bind_some]
  by_cases h1 : (d.toNat : Int) < lo'
  ·rw [if_pos h1]; exact bad (by rw [hcp, Qc8 (b := d) (i := 1) rfl (by omega)]; rfl)
  rw [if_neg h1]
  by_cases h2 : (hi' : Int) < d.toNat
  ·rw [if_pos h2]; exact bad (by rw [hcp, Qc8 (b := d) (i := 1) rfl (by omega)]; rfl)
  rw [if_neg h2]
  by_cases h3 : (e.toNat : Int) < 128
  ·rw [if_pos h3]; exact bad (by rw [hcp, Qc8 (b := e) (i := 2) rfl (by omega)]; simp)
  rw [if_neg h3]
  by_cases h4 : (191 : Int) < e.toNat
  ·rw [if_pos h4]; exact bad (by rw [hcp, Qc8 (b := e) (i := 2) rfl (by omega)]; simp)
  rw [if_neg h4, if_pos (by simp)]
  have hc : cpN (c :: d :: e :: t) = 3 := by rw [hcp, Qov (b := d) (i := 1) rfl (by omega) (by omega), Qov (b := e) (i := 2) rfl (by omega) (by omega)]; rfl
  rw [Q4w _ 2 hc]
  exact hX _ (by simp; omega)
theorem Ql6 {X : List UInt8 → Option Bool} (c : UInt8) (r : List UInt8) (lo hi : Int) (lo' hi' : Nat) (e1 : lo = lo') (e2 : hi = hi') (hX : ∀ t, t.length ≤ r.length → X t = some (J9 t))
  (hcp : cpN (c :: r) = if inB (c :: r) 1 lo' hi' && inB (c :: r) 2 128 191 && inB (c :: r) 3 128 191 then 4 else 0) :
  (if ((c :: r).length : Int) < 4 then some false else (idx (c :: r) 1).bind fun b => if (b.toNat : Int) < lo then some false else (idx (c :: r) 1).bind fun b2 => if hi < (b2.toNat : Int) then some false else
   (idx (c :: r) 2).bind fun b3 => if (b3.toNat : Int) < 128 then some false else (idx (c :: r) 2).bind fun b4 => if 191 < (b4.toNat : Int) then some false else
   (idx (c :: r) 3).bind fun b5 => if (b5.toNat : Int) < 128 then some false else (idx (c :: r) 3).bind fun b6 => if 191 < (b6.toNat : Int) then some false else
   if 4 ≤ (c :: r).length then X ((c :: r).drop 4) else none) = some (J9 (c :: r)) := by
 subst e1 e2
 have bad : cpN (c :: r) = 0 → some false = some (J9 (c :: r)) := fun h => by rw [Q79 _ (by simp) h]
 match r, hX, hcp, bad with
 | [], hX, hcp, bad =>
  rw [if_pos (by simp)]
  exact bad (by rw [hcp, Qot (by simp)]; rfl)
 | [d], hX, hcp, bad =>
  rw [if_pos (by simp)]
  exact bad (by rw [hcp, Qot (i := 2) (by simp)]; simp)
 | [d, e], hX, hcp, bad =>
  rw [if_pos (by simp)]
  exact bad (by rw [hcp, Qot (i := 3) (by simp)]; simp)
 | d :: e :: f :: t, hX, hcp, bad =>
  rw [if_neg (by simp only [List.length_cons]; omega), show idx (c :: d :: e :: f :: t) 1 = some d from rfl, show idx (c :: d :: e :: f :: t) 2 = some e from rfl, show idx (c :: d :: e :: f :: t) 3 = some f from rfl]
  simp only [Option.bind_some]
  by_cases h1 : (d.toNat : Int) < lo'
  ·rw [if_pos h1]; exact bad (by rw [hcp, Qc8 (b := d) (i := 1) rfl (by omega)]; rfl)
  rw [if_neg h1]
  by_cases h2 : (hi' : Int) < d.toNat
  ·rw [if_pos h2]; exact bad (by rw [hcp, Qc8 (b := d) (i := 1) rfl (by omega)]; rfl)
  rw [if_neg h2]
  by_cases h3 : (e.toNat : Int) < 128
  ·rw [if_pos h3]; exact bad (by rw [hcp, Qc8 (b := e) (i := 2) rfl (by omega)]; simp)
  rw [if_neg h3]
  by_cases h4 : (191 : Int) < e.toNat
  ·rw [if_pos h4]; exact bad (by rw [hcp, Qc8 (b := e) (i := 2) rfl (by omega)]; simp)
  rw [if_neg h4]
  by_cases h5 : (f.toNat : Int) < 128
  ·rw [if_pos h5]; exact bad (by rw [hcp, Qc8 (b := f) (i := 3) rfl (by omega)]; simp)
  rw [if_neg h5]
  by_cases h6 : (191 : Int) < f.toNat
  ·rw [if_pos h6]; exact bad (by rw [hcp, Qc8 (b := f) (i := 3) rfl (by omega)]; simp)
  rw [if_neg h6, if_pos (by simp)]
  have hc : cpN (c :: d :: e :: f :: t) = 4 := by rw [hcp, Qov (b := d) (i := 1) rfl (by omega) (by omega), Qov (b := e) (i := 2) rfl (by omega) (by omega), Qov (b := f) (i := 3) rfl (by omega) (by omega)]; rfl
  rw [Q4w _ 3 hc]
  exact hX _ (by simp; omega)
theorem Qzj : ∀ (N n : Nat) (s : List UInt8), s.length < n → s.length < N → Qa N n s = some (J9 s)
 | N, 0, s, h, _ => by omega
 | N, n + 1, [], h1, h2 => by simp [Qa, Q6, Qpi]
 | N, n + 1, c :: r, h1, h2 => by
  have h1 : r.length < n := by simp at h1; omega
  have h2 : r.length < N := by simp at h2; omega
  have ih : ∀ t : List UInt8, t.length ≤ r.length → Qa N n t = some (J9 t) := fun t ht => Qzj N n t (by omega) (by omega)
  by_cases hc : c.toNat < 128
  ·exact Qz9 N n c r hc h1 h2 ih
  have hlt := c.toNat_lt
  simp only [Qa, Q6, Q2c, Wb, Y6, List.take_length, Nat.ble_eq, Bool.and_eq_true, Nat.le_refl, and_true]
  rw [if_pos (by simp only [List.length_cons]; omega), show idx (c :: r) 0 = some c from rfl]
  simp only [Option.bind_some]
  rw [if_neg (by omega), Qx3 _ hlt]
  simp only [Option.bind_some]
  rcases cls c.toNat hlt (by omega) with ⟨e, h⟩ | ⟨e, h⟩ | ⟨e, h⟩ | ⟨e, h⟩ | ⟨e, h⟩ | ⟨e, h⟩ | ⟨e, h⟩ | ⟨e, h⟩
  ·rw [e, show (idx gtab1 (Q4e .u8 ((241 : Nat) : Int) 4)) = some (0, 0) from by decide]
   simp only [Option.bind_some]
   rw [if_neg (by decide), if_neg (by decide), if_neg (by decide), Q79 _ (by simp) (by simp only [cpN]; rw [if_neg hc, if_neg (by omega), if_neg (by omega), if_neg (by omega), if_neg (by omega), if_neg (by omega), if_neg (by omega), if_neg (by omega)])]
  ·rw [e, show (idx gtab1 (Q4e .u8 ((2 : Nat) : Int) 4)) = some (128, 191) from by decide]
   simp only [Option.bind_some]
   rw [if_pos (by decide)]
   exact Qxm c r 128 191 128 191 rfl rfl ih (by simp only [cpN]; rw [if_neg hc, if_pos h])
  ·rw [e, show (idx gtab1 (Q4e .u8 ((19 : Nat) : Int) 4)) = some (160, 191) from by decide]
   simp only [Option.bind_some]
   rw [if_neg (by decide), if_pos (by decide)]
   exact Qlu c r 160 191 160 191 rfl rfl ih (by simp only [cpN]; rw [if_neg hc, if_neg (by omega), if_pos h])
  ·rw [e, show (idx gtab1 (Q4e .u8 ((3 : Nat) : Int) 4)) = some (128, 191) from by decide]
   simp only [Option.bind_some]
   rw [if_neg (by decide), if_pos (by decide)]
   exact Qlu c r 128 191 128 191 rfl rfl ih (by simp only [cpN]; rw [if_neg hc, if_neg (by omega), if_neg (by omega), if_neg (by omega), if_pos (by omega)])
  ·rw [e, show (idx gtab1 (Q4e .u8 ((35 : Nat) : Int) 4)) = some (128, 159) from by decide]
   simp only [Option.bind_some]
   rw [if_neg (by decide), if_pos (by decide)]
   exact Qlu c r 128 159 128 159 rfl rfl ih (by simp only [cpN]; rw [if_neg hc, if_neg (by omega), if_neg (by omega), if_pos h])
  ·rw [e, show (idx gtab1 (Q4e .u8 ((52 : Nat) : Int) 4)) = some (144, 191) from by decide]
   simp only [Option.bind_some]
   rw [if_neg (by decide), if_neg (by decide), if_pos (by decide)]
   exact Ql6 c r 144 191 144 191 rfl rfl ih (by simp only [cpN]; rw [if_neg hc, if_neg (by omega), if_neg (by omega), if_neg (by omega), if_neg (by omega), if_pos h])
  ·rw [e, show (idx gtab1 (Q4e .u8 ((4 : Nat) : Int) 4)) = some (128, 191) from by decide]
   simp only [Option.bind_some]
   rw [if_neg (by decide), if_neg (by decide), if_pos (by decide)]
   exact Ql6 c r 128 191 128 191 rfl rfl ih (by simp only [cpN]; rw [if_neg hc, if_neg (by omega), if_neg (by omega), if_neg (by omega), if_neg (by omega), if_neg (by omega), if_pos h])
  ·rw [e, show (idx gtab1 (Q4e .u8 ((68 : Nat) : Int) 4)) = some (128, 143) from by decide]
   simp only [Option.bind_some]
   rw [if_neg (by decide), if_neg (by decide), if_pos (by decide)]
   exact Ql6 c r 128 143 128 143 rfl rfl ih (by simp only [cpN]; rw [if_neg hc, if_neg (by omega), if_neg (by omega), if_neg (by omega), if_neg (by omega), if_neg (by omega), if_neg (by omega), if_pos h])
theorem Qf7 (N : Nat) (s : List UInt8) (h : s.length < N) : Vq N s = some (J9 s) := Qzj N N s h h
end
end Go.Av
namespace Go.Av
noncomputable section
open Go.Proofs
set_option maxRecDepth 100000
theorem Qde (s : List UInt8) (i : Nat) (hi : i < s.length) (h : s[i].toNat < 128) : Q6u (s.drop i) = Q6u (s.drop (i + 1)) := by
 rw [List.drop_eq_getElem_cons hi]
 simp only [Q6u, List.all_cons, decide_eq_true h, Bool.true_and]
theorem Qqd (N : Nat) (v : Q0) (hb : v.Text.length < 4611686018427387904) : ∀ (n i : Nat), v.Text.length - i < n → i ≤ v.Text.length →
  Ji N v n (i : Int) = some (if Q6u (v.Text.drop i) then 0 else 6)
 | 0, i, h, _ => by omega
 | n + 1, i, h, hi => by
  simp only [Ji, Q6, Y6, Qcc]
  by_cases h1 : i < v.Text.length
  ·rw [if_pos (by omega), Za, List.getElem?_eq_getElem h1]
   simp only [Option.bind_some]
   by_cases h2 : v.Text[i].toNat < 128
   ·rw [if_neg (by omega), Qh _ (by omega), Qde _ _ h1 h2]
    exact_mod_cast Qqd N v hb n (i + 1) (by omega) (by omega)
   ·rw [if_pos (by omega)]
    have : Q6u (v.Text.drop i) = false := by
     rw [List.drop_eq_getElem_cons h1]
     simp only [Q6u, List.all_cons, decide_eq_false h2, Bool.false_and]
    simp [this]
  ·rw [if_neg (by omega), List.drop_of_length_le (by omega)]
   rfl
theorem Qxe (N : Nat) (v : Q0) (h : v.Text.length < N) (hb : v.Text.length < 4611686018427387904) : Vd N v = some (Qk0 v.Kind v.Text) := by
 simp only [Vd, Q6, Wb, Qk0]
 split
 ·rw [Qf7 N _ h]
  simp only [Option.bind_some]
  cases J9 v.Text <;> rfl
 ·split
  ·have := Qqd N v hb N 0 (by omega) (by omega)
   simpa using this
  ·rfl
theorem Qx0 (v : Q0) : (((Q0.rows v.Items).length : Int) ≠ 0) = (v.Items ≠ []) := by
 rw [Qn]
 apply propext
 cases v.Items <;> simp; omega
theorem Qsf (k : Int) : 0 ≤ (Gj k).1 ∧ (Gj k).1 ≤ 64 ∧ ((Gj k).2 = true → 1 ≤ (Gj k).1) := by
 unfold Gj
 repeat' split
 all_goals simp
def okU (n : Int) : Prop := 0 ≤ n ∧ n < 18446744073709551616
theorem Q6p (N : Nat) (v : Q0) (hn : okU v.N') (h : v.Text.length < N) (hb : v.Text.length < 4611686018427387904) : Xr N v = some (Vx v) := by
 obtain ⟨b1, b2, b3⟩ := Qsf v.Kind
 simp only [Xr, Q6, Wb, Y6, Q2c, Wy, G4, Qlw, Option.bind_some, Qel N _ _ _ hn.1 hn.2 b1 b2 b3, Qjg N _ hn.1, Qob, Qxe N v h hb, Qx0]
 unfold Vx
 by_cases h1 : v.Kind < 1
 ·rw [if_pos h1, if_pos (.inl h1)]
 rw [if_neg h1]
 by_cases h2 : v.Kind > 21
 ·rw [if_pos h2, if_pos (.inr h2)]
 rw [if_neg h2, if_neg (show ¬ (v.Kind < 1 ∨ 21 < v.Kind) by omega)]
 unfold Q8p
 generalize Q1p v.N' (Gj v.Kind).1 (Gj v.Kind).2 = fb
 cases fb
 ·simp
 simp only [Bool.not_true, Bool.false_eq_true, if_false, Bool.true_and]
 by_cases h16 : v.Kind = 16
 ·rw [if_pos h16]
  have e1 : (v.Kind != 16) = false := by simp [h16]
  have e2 : Q30 v.Kind = false := by rw [h16]; rfl
  rw [e1, e2]
  simp only [Bool.false_or, Bool.not_false, if_true]
  cases Qf9 v.N' with
  | false => simp
  | true =>
   simp only [Bool.not_true, Bool.false_eq_true, if_false]
   by_cases hi : v.Items = []
   ·simp only [hi, ne_eq, not_true_eq_false, if_false]
    simp only [Bool.true_eq_false, or_self, if_false]
    by_cases ht : v.Text = [] <;> simp [ht]
   ·simp [hi]
 ·rw [if_neg h16]
  have e1 : (v.Kind != 16) = true := by simp [h16]
  rw [e1]
  simp only [Bool.true_or, Bool.true_eq_false, false_or]
  have e3 : ((v.Text.length : Int) ≠ 16) = (v.Text.length ≠ 16) := by apply propext; omega
  have e4 : ((v.Text.length : Int) > 1048576) = (1048576 < v.Text.length) := by apply propext; omega
  simp only [e3, e4]
  by_cases hi : v.Items = []
  ·simp only [hi, ne_eq, not_true_eq_false, if_false]
   cases Q30 v.Kind with
   | false => by_cases ht : v.Text = [] <;> simp [ht]
   | true =>
    simp only [Bool.not_true, Bool.false_eq_true, if_false, Bool.true_eq_false]
    by_cases h15 : v.Kind = 15
    ·simp only [h15, if_true, true_or, true_and]
     by_cases hl : v.Text.length = 16 <;> simp [hl]
    ·by_cases h18 : v.Kind = 18
     ·simp only [h18, if_true, or_true, true_and]
      by_cases hl : v.Text.length = 16 <;> simp [hl]
     ·simp only [h15, h18, if_false, or_self, false_and]
      split <;> rfl
  ·simp [hi]
theorem Qxn (N : Nat) (c : Qg) (v : Q0) (hn : okU v.N') : Q14 N c v = some (Q6w c v) := by
 simp only [Q14, Q6, Wb, Q6w, Qlw, Option.bind_some]
 split
 ·rfl
 split
 ·split
  ·rename_i h; simp [h]
  ·rename_i h
   simp only [h, false_or, Option.some.injEq, Q5, decide_eq_decide]
   omega
 split
 ·rfl
 split
 ·rw [Qel N _ _ _ hn.1 hn.2 (by omega) (by omega) (by intro _; omega)]; rfl
 ·rfl
theorem Qs1 (N : Nat) (code : Int) (v : Q0) (hn : okU v.N') (h : v.Text.length < N) (hb : v.Text.length < 4611686018427387904) : Q03 N code v = some (Q34 code v) := by
 simp only [Q03, Z9, Q6, Wb, Option.bind_some, Q6p N v hn h hb, Qxn N _ v hn, Q34]
 cases ofB code
 ·simp
 simp only [if_true, Bool.true_and]
 by_cases h1 : (ofS code).Kind = v.Kind
 ·rw [if_pos h1, decide_eq_true h1]
  by_cases h2 : Vx v = 0
  ·rw [if_pos h2, decide_eq_true h2]; simp
  ·rw [if_neg h2, decide_eq_false h2]; simp
 ·rw [if_neg h1, decide_eq_false h1]; simp
theorem Qgg (k : Int) : (Ju k).length ≤ 4 := by
 by_cases h : k < 1 ∨ 25 < k
 ·rw [Q8b k h]; simp
 ·have hall : ((List.range 26).all fun k => decide ((Ju k).length ≤ 4)) = true := by decide +kernel
  have := List.all_eq_true.1 hall k.toNat (by simp; omega)
  rw [show ((k.toNat : Nat) : Int) = k by omega] at this
  simpa using this
end
end Go.Av
namespace Go.Av
noncomputable section
open Go.Proofs
set_option maxRecDepth 100000
theorem Q7z : ∀ (w n : Nat), Q05 n (w + 1) = UInt8.ofNat (n / 256 ^ w % 256) :: Q05 n w
 | 0, n => by simp [Q05]
 | w + 1, n => by
  rw [Q05, Q7z w (n / 256), Q05, List.cons_append, Nat.div_div_eq_div_mul, Nat.pow_succ, Nat.mul_comm 256]
def Qxo (n : Nat) : Nat → List Int
 | 0 => []
 | w + 1 => ((n / 256 ^ w % 256 : Nat) : Int) :: Qxo n w
theorem Qm2 (n : Nat) : ∀ w, (Qxo n w).map (fun n => UInt8.ofNat n.toNat) = Q05 n w
 | 0 => rfl
 | w + 1 => by rw [Qxo, List.map_cons, Qm2 n w, Q7z]; rfl
theorem Qwo (m : Nat) (x : Int) (t : List Int) : (List.replicate (m + 1) (0 : Int) ++ t).set m x = List.replicate m 0 ++ (x :: t) := by
 rw [List.replicate_succ', List.append_assoc, List.set_append_right _ _ (by simp)]
 simp
theorem Qws (x : Int) : IntKind.u8.wrap x = x % 256 := by simp [IntKind.wrap, IntKind.bits, IntKind.signed]
theorem Q9u (x : Int) : IntKind.u64.wrap x = x % 18446744073709551616 := by simp [IntKind.wrap, IntKind.bits, IntKind.signed]
theorem Qve (N n w : Nat) (hn : n < 18446744073709551616) (hw : w ≤ 8) : ∀ (k i : Nat), i ≤ w → w - i < k → Gb N (n : Int) (w : Int) k (i : Int) (List.replicate (w - i) 0 ++ Qxo n i) = some (Q05 n w)
 | 0, i, h, h2 => by omega
 | k + 1, i, h, h2 => by
  have e1 : ifB (decide ((16 : Int) < (w : Int))) (16 : Int) (w : Int) = w := by rw [decide_eq_false (by omega)]; rfl
  simp only [Gb, Q6, Y6, e1]
  by_cases hi : i < w
  ·rw [if_pos (by omega), if_pos (by omega)]
   have e2 : IntKind.i64.wrap (8 * (i : Int)) = ((8 * i : Nat) : Int) := by rw [Qh _ (by omega)]; push_cast; rfl
   have e3 : IntKind.u64.wrap ((8 * i : Nat) : Int) = ((8 * i : Nat) : Int) := U5 _ (by omega)
   have e4 : IntKind.i64.wrap (IntKind.i64.wrap ((w : Int) - 1) - (i : Int)) = ((w - i - 1 : Nat) : Int) := by
    rw [Qh ((w : Int) - 1) (by omega), Qh _ (by omega)]; omega
   rw [e2, e3, e4, if_pos (decide_eq_true (Int.natCast_nonneg _))]
   have hlen : (List.replicate (w - i) (0 : Int) ++ Qxo n i).length ≥ w - i := by simp
   rw [Za, List.getElem?_eq_getElem (by omega)]
   simp only [Option.bind_some]
   have e5 : IntKind.u8.wrap (Q4e .u64 (n : Int) ((8 * i : Nat) : Int)) = ((n / 256 ^ i % 256 : Nat) : Int) := by
    rw [Qws]
    simp only [Q4e]
    have : min (((8 * i : Nat) : Int).toNat) IntKind.u64.bits = 8 * i := by simp [IntKind.bits]; omega
    rw [this, Int.fdiv_eq_ediv_of_nonneg _ (by have := two_pow_pos (8 * i); omega)]
    have e0 : (2 : Nat) ^ (8 * i) = 256 ^ i := Nat.pow_mul 2 8 i
    have e : ((2 : Int) ^ (8 * i)) = ((256 ^ i : Nat) : Int) := by rw [← e0]; push_cast; rfl
    rw [e]
    push_cast
    rfl
   rw [e5, show Int.toNat ((w - i - 1 : Nat) : Int) = w - i - 1 from rfl, Qh _ (by omega)]
   obtain ⟨m, hm⟩ : ∃ m, w - i = m + 1 := ⟨w - i - 1, by omega⟩
   have h3 := Qve N n w hn hw k (i + 1) (by omega) (by omega)
   rw [show w - (i + 1) = m by omega, Qxo] at h3
   rw [hm, Nat.add_sub_cancel, Qwo]
   exact_mod_cast h3
  ·rw [if_neg (by omega)]
   have : i = w := by omega
   subst this
   rw [Nat.sub_self, List.replicate_zero, List.nil_append, Qm2]
theorem Q7l (N n w : Nat) (hn : n < 18446744073709551616) (hw : w ≤ 8) (hN : 10 < N) : J2 N (n : Int) (w : Int) = some (Q05 n w) := by
 have e1 : ifB (decide ((16 : Int) < (w : Int))) (16 : Int) (w : Int) = w := by rw [decide_eq_false (by omega)]; rfl
 simp only [J2, Q6, Q75, e1]
 by_cases h0 : (w : Int) ≤ 0
 ·rw [if_pos h0]
  have : w = 0 := by omega
  subst this; rfl
 ·rw [if_neg h0, if_pos (by simp; omega)]
  have := Qve N n w hn hw N 0 (by omega) (by omega)
  simpa [Qxo] using this
theorem Qip (a b : Nat) (ha : a < 72057594037927936) (hb : b < 256) : orI .u64 (Q0d .u64 (a : Int) 8) (IntKind.u64.wrap (b : Int)) = ((a * 256 + b : Nat) : Int) := by
 have e1 : Q0d .u64 (a : Int) 8 = ((a * 256 : Nat) : Int) := by
  simp only [Q0d]
  have : min (Int.toNat 8) IntKind.u64.bits = 8 := rfl
  rw [this, show ((a : Int) * 2 ^ 8) = ((a * 256 : Nat) : Int) by push_cast; rfl, U5 _ (by omega)]
 rw [e1, U5 b (by omega), (Qdk _ _ (by omega) (by omega)).1]
 have := Nat.shiftLeft_add_eq_or_of_lt (show b < 2 ^ 8 by omega) a
 rw [Nat.shiftLeft_eq] at this
 rw [← this]
theorem Qjj (s : List UInt8) (i : Nat) (hi : i < s.length) : Q0o (s.take (i + 1)) = Q0o (s.take i) * 256 + s[i].toNat := by
 rw [List.take_succ_eq_append_getElem hi, Qac]
theorem Qsn (N : Nat) (s : List UInt8) (hl : s.length ≤ 8) : ∀ (k i : Nat), i ≤ s.length → s.length - i < k → Q04 N s k (Q0o (s.take i) : Nat) (i : Int) = some ((Q0o s : Nat) : Int)
 | 0, i, h, h2 => by omega
 | k + 1, i, h, h2 => by
  simp only [Q04, Q6, Y6]
  by_cases hi : i < s.length
  ·rw [if_pos (by omega), Za, List.getElem?_eq_getElem hi]
   simp only [Option.bind_some]
   have h3 := Q2g (s.take i)
   have h4 : 256 ^ (s.take i).length ≤ 256 ^ 7 := Nat.pow_le_pow_right (by omega) (by rw [List.length_take]; omega)
   have h5 : (256 : Nat) ^ 7 = 72057594037927936 := rfl
   rw [Qip _ _ (by omega) s[i].toNat_lt, ← Qjj s i hi, Qh _ (by omega)]
   exact_mod_cast Qsn N s hl k (i + 1) (by omega) (by omega)
  ·rw [if_neg (by omega), List.take_of_length_le (by omega)]
theorem Qdp (N : Nat) (s : List UInt8) (hl : s.length ≤ 8) (hN : 10 < N) : Q1b N s = some ((Q0o s : Nat) : Int) := by
 simp only [Q1b, Q6, Q2c]
 rw [if_neg (by omega)]
 exact Qsn N s hl N 0 (by omega) (by omega)
abbrev Qdr (s : List UInt8) : Prop := s.length < 4611686018427387904
theorem Q69 (N : Nat) (s : List UInt8) (i n : Nat) (hs : Qdr s) (hi : i ≤ s.length) (hn : n < 4611686018427387904) : Qs N ⟨s, i, 0⟩ (n : Int) =
  some (if n ≤ s.length - i then ((s.drop i).take n, ⟨s, ((i + n : Nat) : Int), 0⟩) else ([], ⟨s, i, 3⟩)) := by
 unfold Qdr at hs
 simp only [Qs, J7, Q07, Q6, Option.bind_some, Qcc, show Q5 .eql (0 : Int) 0 = true from rfl, Bool.not_true, Bool.false_eq_true, if_false]
 rw [if_pos (by omega), Qh _ (by omega)]
 simp only [Option.bind_some, Bool.not_eq_true']
 by_cases h : n ≤ s.length - i
 ·have e1 : Q5 .leq (n : Int) ((s.length : Int) - (i : Int)) = true := by rw [Q75]; omega
  rw [e1, if_pos h, Qh _ (by omega)]
  simp only [Bool.true_eq_false, if_false]
  have e2 : ((i : Int) + (n : Int)) = ((i + n : Nat) : Int) := by push_cast; rfl
  rw [e2, if_pos (by simp), if_pos (by simp; omega), if_pos (by simp [Nat.ble_eq]; omega)]
  have e3 : ((i + n : Nat) : Int).toNat = i + n := rfl
  have e4 : (i : Int).toNat = i := rfl
  rw [e3, e4]
  rw [show (s.take (i + n)).drop i = (s.drop i).take n by rw [List.drop_take]; congr 1; omega]
 ·have e1 : Q5 .leq (n : Int) ((s.length : Int) - (i : Int)) = false := by
   have : ¬ (Q5 .leq (n : Int) ((s.length : Int) - (i : Int)) = true) := by rw [Q75]; omega
   exact Bool.eq_false_iff.2 this
  rw [e1, if_neg h]
  simp
theorem Q8s (N : Nat) (s : List UInt8) (i : Nat) (e : Int) (hi : i ≤ s.length) : Z3 N ⟨s, i, e⟩ = some (((s.length - i : Nat) : Int), ⟨s, i, e⟩) := by
 simp only [Z3, Z4, Q6]
 rw [if_pos (by simp), if_pos (by simp [Nat.ble_eq]; exact hi)]
 simp
theorem Qab (N : Nat) (s : List UInt8) (w : Nat) (hs : Qdr s) (hw : w ≤ 8) (hN : 10 < N) : Qz N ⟨s, 0, 0⟩ (w : Int) =
  some (if w ≤ s.length then (((Q0o (s.take w) : Nat) : Int), ⟨s, (w : Int), 0⟩) else (0, ⟨s, 0, 3⟩)) := by
 simp only [Qz]
 have := Q69 N s 0 w hs (by omega) (by omega)
 rw [show ((0 : Nat) : Int) = 0 from rfl] at this
 rw [this]
 simp only [Option.bind_some, Nat.sub_zero, List.drop_zero, Nat.zero_add]
 by_cases h : w ≤ s.length
 ·rw [if_pos h, if_pos h]
  simp only
  rw [Qdp N _ (by rw [List.length_take]; omega) hN]
  rfl
 ·rw [if_neg h, if_neg h]
  dsimp only
  rw [Qdp N _ (by simp) hN]
  rfl
end
end Go.Av
namespace Go.Av
noncomputable section
open Go.Proofs
set_option maxRecDepth 100000
def Qyg (code : Int) (t : Int × Int × Int × Bool × Bool) : Bool :=
 decide (t.1 = code) && decide (1 ≤ t.2.1 ∧ t.2.1 ≤ 25) && (t.2.2.2.2 == decide (22 ≤ t.2.1)) &&
 (t.2.2.2.2 || (if t.2.2.2.1 then decide ((t.2.2.1 = 1 ∨ t.2.2.1 = 4) ∧ 19 ≤ t.2.1 ∧ t.2.1 ≤ 21 ∧ t.1 ≠ 65)
  else if t.2.2.1 = 16 then decide ((t.2.1 = 15 ∨ t.2.1 = 18) ∧ t.1 ≠ 65)
  else decide (Q30 t.2.1 = false) && decide (t.2.2.1 = 0 ∨ t.2.2.1 = 1 ∨ t.2.2.1 = 2 ∨ t.2.2.1 = 4 ∨ t.2.2.1 = 8) &&
   decide (t.1 = 65 → t.2.2.1 = 0 ∧ t.2.1 = 2) && decide (t.2.2.1 = 1 → (Gj t.2.1).1 ≤ 8 → (Gj t.2.1).2 = false ∨ (Gj t.2.1).1 = 8) && decide (2 ≤ t.2.2.1 → (Gj t.2.1).1 = 8 * t.2.2.1)))
theorem Qsr : ((List.range 40).all fun k => Qyg (Q16 k) (Uk k)) = true := by decide +kernel
structure Well (code : Int) (c : Qg) : Prop where
 code : c.Code = code
 kind : 1 ≤ c.Kind ∧ c.Kind ≤ 25
 items : c.Items = decide (22 ≤ c.Kind)
 sized : c.Items = false → c.Sized = true → (c.Width = 1 ∨ c.Width = 4) ∧ 19 ≤ c.Kind ∧ c.Kind ≤ 21 ∧ c.Code ≠ 65
 wide : c.Items = false → c.Sized = false → c.Width = 16 → (c.Kind = 15 ∨ c.Kind = 18) ∧ c.Code ≠ 65
 num : c.Items = false → c.Sized = false → c.Width ≠ 16 → Q30 c.Kind = false ∧ (c.Width = 0 ∨ c.Width = 1 ∨ c.Width = 2 ∨ c.Width = 4 ∨ c.Width = 8) ∧ (c.Code = 65 → c.Width = 0 ∧ c.Kind = 2) ∧ (2 ≤ c.Width → (Gj c.Kind).1 = 8 * c.Width)
theorem Qej (code : Int) (h : ofB code = true) : Well code (ofS code) := by
 have h1 : bsI code < 40 ∧ Q16 (bsI code) = code := by simpa [ofB] using h
 have hw := List.all_eq_true.1 Qsr (bsI code) (by simpa using h1.1)
 rw [h1.2] at hw
 have e : ofT code = Uk (bsI code) := by unfold ofT; rw [if_pos h]
 rw [← e] at hw
 have es : ofS code = ⟨(ofT code).1, (ofT code).2.1, (ofT code).2.2.1, (ofT code).2.2.2.1, (ofT code).2.2.2.2⟩ := rfl
 rw [es]
 generalize ofT code = t at hw
 obtain ⟨c, k, w, s, i⟩ := t
 simp only [Qyg, Bool.and_eq_true, decide_eq_true_eq, beq_iff_eq] at hw
 obtain ⟨⟨⟨h1, h2⟩, h3⟩, h4⟩ := hw
 refine ⟨h1, h2, h3, ?_, ?_, ?_⟩ <;> intro hi hs <;> simp only at hi hs
 ·rw [hi, hs] at h4
  simpa using h4
 ·intro hw16
  simp only at hw16
  rw [hi, hs, if_pos hw16] at h4
  simpa using h4
 ·intro hw16
  simp only at hw16
  rw [hi, hs, if_neg hw16] at h4
  simp only [Bool.false_or, Bool.and_eq_true, decide_eq_true_eq, Bool.false_eq_true, if_false] at h4
  exact ⟨h4.1.1.1.1, h4.1.1.1.2, h4.1.1.2, h4.2⟩
theorem Qha (code : Int) (h : ofB code = false) : ofS code = ⟨0, 0, 0, false, false⟩ := by
 unfold ofS ofT
 rw [h]; rfl
theorem Gd {v : Q0} (h : Vx v = 0) : 1 ≤ v.Kind ∧ v.Kind ≤ 21 ∧ Q8p v.Kind v.N' = true ∧ v.Items = [] ∧ (Q30 v.Kind = false → v.Text = []) ∧ (v.Kind = 15 ∨ v.Kind = 18 → v.Text.length = 16) ∧ v.Text.length ≤ 1048576 := by
 unfold Vx at h
 split at h
 ·omega
 split at h
 ·omega
 rename_i h1 h2
 have hi : v.Items = [] := by
  apply Classical.byContradiction
  intro hn; exact h2 (.inr hn)
 have ho : Q8p v.Kind v.N' = true := by
  cases ho : Q8p v.Kind v.N' with
  | true => rfl
  | false => exact absurd (.inl ho) h2
 split at h
 ·split at h
  ·omega
  ·rename_i h3 h4
   have ht : v.Text = [] := by
    apply Classical.byContradiction
    intro hn; exact h4 hn
   refine ⟨by omega, by omega, ho, hi, fun _ => ht, fun hk => ?_, by rw [ht]; simp⟩
   rcases hk with hk | hk <;> rw [hk] at h3 <;> cases h3
 ·split at h
  ·omega
  split at h
  ·omega
  rename_i h3 h4 h5
  exact ⟨by omega, by omega, ho, hi, fun ht => absurd ht h3, fun hk => by
   apply Classical.byContradiction
   intro hn; exact h4 ⟨hk, hn⟩, by omega⟩
theorem Qka {k n : Int} (h : Q30 k = true) (hn : Q8p k n = true) (h0 : 0 ≤ n) : n = 0 := by
 unfold Q30 at h
 simp only [decide_eq_true_eq] at h
 have hb : Gj k = (0, false) := by
  rcases h with rfl | rfl | rfl | rfl | rfl <;> rfl
 simp only [Q8p, Bool.and_eq_true, hb, Q1p, Bool.false_eq_true, if_false, decide_eq_true_eq] at hn
 have := hn.1
 simp at this
 omega
theorem Qr5 {c : Qg} {n : Int} {w : Nat} (hw : c.Width = w) (h148 : w = 1 ∨ w = 2 ∨ w = 4 ∨ w = 8) (hn : okU n) (hf : Q1p n (8 * w) (Gj c.Kind).2 = true) : Q0n c ((n.toNat % 256 ^ w : Nat) : Int) = n := by
 obtain ⟨h0, h1⟩ := hn
 unfold Q0n
 unfold Q1p s64 at hf
 cases hs : (Gj c.Kind).2
 ·rw [hs] at hf
  simp only [Bool.false_eq_true, if_false, decide_eq_true_eq] at hf
  simp only [Bool.false_eq_true, false_and, if_false]
  rcases h148 with rfl | rfl | rfl | rfl <;> simp at hf ⊢ <;> omega
 ·rw [hs] at hf
  simp only [if_true, decide_eq_true_eq] at hf
  simp only [true_and, hw]
  rcases h148 with rfl | rfl | rfl | rfl <;> simp at hf ⊢ <;> split at hf <;> (try split) <;> omega
theorem Qda {c : Qg} {n w : Nat} (hw : c.Width = w) (h148 : w = 1 ∨ w = 2 ∨ w = 4 ∨ w = 8) (hn : n < 256 ^ w) : okU (Q0n c n) ∧ (Q0n c n).toNat % 256 ^ w = n ∧ Q1p (Q0n c n) (8 * w) (Gj c.Kind).2 = true := by
 unfold Q0n okU Q1p s64
 cases hs : (Gj c.Kind).2
 ·simp only [Bool.false_eq_true, false_and, if_false]
  rcases h148 with rfl | rfl | rfl | rfl <;> simp at hn ⊢ <;> omega
 ·simp only [true_and, hw, if_true]
  rcases h148 with rfl | rfl | rfl | rfl <;> simp at hn ⊢ <;> split <;> refine ⟨by omega, by omega, ?_⟩ <;> (try split) <;> omega
theorem Qnb (N : Nat) (c : Qg) (n w : Nat) (hw : c.Width = w) (hww : w = 0 ∨ w = 1 ∨ w = 2 ∨ w = 4 ∨ w = 8) (hn : n < 256 ^ w) : Q0e N c (n : Int) = some (Q0n c n) := by
 simp only [Q0e, Qlw, Option.bind_some, Q6, Q2c, Q0n]
 cases hs : (Gj c.Kind).2
 ·simp
 ·simp only [if_true, true_and, hw]
  rcases hww with rfl | hww
  ·simp
  rcases hww with rfl | rfl | rfl | rfl
  ·rw [if_pos (by omega), Qh (8 * ((1 : Nat) : Int)) (by omega), Qh _ (by omega), if_pos (by decide)]
   simp only [Nat.pow_one] at hn
   simp only [Q4e, Q0d, Q9u]
   simp only [Option.some.injEq]
   rw [show min (Int.toNat (64 - 8 * ((1 : Nat) : Int))) IntKind.u64.bits = 56 from rfl, show min (Int.toNat (64 - 8 * ((1 : Nat) : Int))) IntKind.i64.bits = 56 from rfl]
   simp only [IntKind.wrap, IntKind.bits, IntKind.signed]
   rw [Int.fdiv_eq_ediv_of_nonneg _ (by decide)]
   simp
   split <;> split <;> omega
  ·rw [if_pos (by omega), Qh (8 * ((2 : Nat) : Int)) (by omega), Qh _ (by omega), if_pos (by decide)]
   simp at hn
   simp only [Q4e, Q0d, Q9u]
   simp only [Option.some.injEq]
   rw [show min (Int.toNat (64 - 8 * ((2 : Nat) : Int))) IntKind.u64.bits = 48 from rfl, show min (Int.toNat (64 - 8 * ((2 : Nat) : Int))) IntKind.i64.bits = 48 from rfl]
   simp only [IntKind.wrap, IntKind.bits, IntKind.signed]
   rw [Int.fdiv_eq_ediv_of_nonneg _ (by decide)]
   simp
   split <;> split <;> omega
  ·rw [if_pos (by omega), Qh (8 * ((4 : Nat) : Int)) (by omega), Qh _ (by omega), if_pos (by decide)]
   simp at hn
   simp only [Q4e, Q0d, Q9u]
   simp only [Option.some.injEq]
   rw [show min (Int.toNat (64 - 8 * ((4 : Nat) : Int))) IntKind.u64.bits = 32 from rfl, show min (Int.toNat (64 - 8 * ((4 : Nat) : Int))) IntKind.i64.bits = 32 from rfl]
   simp only [IntKind.wrap, IntKind.bits, IntKind.signed]
   rw [Int.fdiv_eq_ediv_of_nonneg _ (by decide)]
   simp
   split <;> split <;> omega
  ·rw [if_pos (by omega), Qh (8 * ((8 : Nat) : Int)) (by omega), Qh _ (by omega), if_pos (by decide)]
   simp at hn
   simp only [Q4e, Q0d, Q9u]
   simp only [Option.some.injEq]
   rw [show min (Int.toNat (64 - 8 * ((8 : Nat) : Int))) IntKind.u64.bits = 0 from rfl, show min (Int.toNat (64 - 8 * ((8 : Nat) : Int))) IntKind.i64.bits = 0 from rfl]
   simp only [IntKind.wrap, IntKind.bits, IntKind.signed]
   rw [Int.fdiv_eq_ediv_of_nonneg _ (by decide)]
   simp
   split <;> omega
end
end Go.Av
namespace Go.Av
noncomputable section
open Go.Proofs
set_option maxRecDepth 100000
theorem Q3h {code : Int} {v : Q0} (h : Q34 code v = true) : ofB code = true ∧ (ofS code).Kind = v.Kind ∧ Vx v = 0 ∧ Q6w (ofS code) v = true := by
 simp only [Q34, Bool.and_eq_true, decide_eq_true_eq] at h
 exact ⟨h.1.1.1, h.1.1.2, h.1.2, h.2⟩
theorem Qud : okU 0 := ⟨by decide, by decide⟩
theorem Z0c : okU 1 := ⟨by decide, by decide⟩
inductive Z06 (c : Qg) : Prop
 | sized (w : Nat) (hs : c.Sized = true) (hw : c.Width = w) (h : w = 1 ∨ w = 4) (hk : 19 ≤ c.Kind ∧ c.Kind ≤ 21) (hc : c.Code ≠ 65)
 | wide (hs : c.Sized = false) (hw : c.Width = 16) (hk : c.Kind = 15 ∨ c.Kind = 18) (hc : c.Code ≠ 65)
 | num (w : Nat) (hs : c.Sized = false) (hw : c.Width = w) (h : w = 0 ∨ w = 1 ∨ w = 2 ∨ w = 4 ∨ w = 8) (ht : Q30 c.Kind = false) (hc : c.Code = 65 → w = 0 ∧ c.Kind = 2) (hb : 2 ≤ w → (Gj c.Kind).1 = 8 * w)
theorem Well.shape {code : Int} {c : Qg} (h : Well code c) (hi : c.Items = false) : Z06 c := by
 cases hs : c.Sized with
 | true =>
  obtain ⟨h1, h2, h3, h4⟩ := h.sized hi hs
  rcases h1 with h1 | h1
  ·exact .sized 1 hs h1 (.inl rfl) ⟨h2, h3⟩ h4
  ·exact .sized 4 hs h1 (.inr rfl) ⟨h2, h3⟩ h4
 | false =>
  by_cases h16 : c.Width = 16
  ·obtain ⟨h1, h2⟩ := h.wide hi hs h16
   exact .wide hs h16 h1 h2
  ·obtain ⟨h1, h2, h3, h4⟩ := h.num hi hs h16
   have hw : c.Width = (c.Width.toNat : Nat) := by omega
   refine .num c.Width.toNat hs hw (by omega) h1 (fun hc => ?_) (fun hb => ?_)
   ·obtain ⟨q1, q2⟩ := h3 hc
    exact ⟨by omega, q2⟩
   ·have := h4 (by omega)
    omega
theorem Q13 {code : Int} {c : Qg} (h : Well code c) (hk : c.Kind ≤ 21) : c.Items = false := by
 rw [h.items]
 exact decide_eq_false (by omega)
theorem Q8x (n : Nat) (h : n < 4611686018427387904) : IntKind.u64.wrap (n : Int) = n := U5 _ (by omega)
theorem Quv (N : Nat) (c : Qg) (v : Q0) (w : Nat) (hw : c.Width = w) (h : w ≤ 8) (hl : v.Text.length ≤ 1048576) (hN : 10 < N) : Uc N ⟨c, v⟩ = some (Q05 v.Text.length w ++ v.Text) := by
 simp only [Uc, Q8x _ (show v.Text.length < 4611686018427387904 by omega), hw, Q7l N _ w (show v.Text.length < 18446744073709551616 by omega) h hN, Option.bind_some, Q6]
 rw [if_pos (by simp [Nat.ble_eq, Yk]; omega)]
theorem Qz2 (N : Nat) (c : Qg) (v : Q0) (w : Nat) (hw : c.Width = w) (h : w ≤ 8) (hn : okU v.N') (hN : 10 < N) : Y9 N ⟨c, v⟩ = some (Q05 v.N'.toNat w) := by
 have e : v.N' = ((v.N'.toNat : Nat) : Int) := by have := hn.1; omega
 have hlt : v.N'.toNat < 18446744073709551616 := by have := hn.2; have := hn.1; omega
 simp only [Y9]
 rw [e, hw, Q7l N _ w hlt h hN]
 rfl
theorem Qyr (N : Nat) (code : Int) (v : Q0) (hn : okU v.N') (h : v.Text.length < N) (hb : v.Text.length < 4611686018427387904) (hN : 10 < N) : Q1u N code v = some (Qsw code v) := by
 simp only [Q1u, Q6p N v hn h hb, Qs1 N code v hn h hb, Z9, Option.bind_some, Q6, Wy, Qsw]
 by_cases h1 : Vx v = 0
 ·rw [if_neg (show ¬ (Vx v ≠ 0) by simp [h1]), if_neg (show ¬ (Vx v ≠ 0) by simp [h1])]
  cases hf : Q34 code v with
  | false => rfl
  | true =>
   obtain ⟨f1, f2, f3, f4⟩ := Q3h hf
   obtain ⟨c1, c2, c3, c4, c5, c6, c7⟩ := Gd f3
   have hw := Qej code f1
   have hi := Q13 hw (by omega)
   simp only [Bool.not_true, Bool.false_eq_true, if_false, Bool.true_eq_false]
   generalize ofS code = c at *
   unfold Q2e
   cases hw.shape hi with
   | sized w hs hw' h12 hk hc =>
    rw [hs, Quv N c v w hw' (by omega) c7 hN, hw']
    simp
   | wide hs hw' hk hc =>
    rw [hs, hw']
    simp only [Bool.false_eq_true, if_false]
    rw [if_neg (by decide), if_neg (by decide), if_neg (by decide), if_neg (by decide), if_neg (by decide), if_pos (by decide)]
    rfl
   | num w hs hw' hh ht hc hbb =>
    rw [hs, Qz2 N c v w hw' (by omega) hn hN, hw']
    simp only [Bool.false_eq_true, if_false, Gf, Option.bind_some]
    rcases hh with rfl | rfl | rfl | rfl | rfl
    ·rw [if_pos (by decide), if_neg (by decide)]; rfl
    ·rw [if_neg (by decide), if_pos (by decide), if_neg (by decide)]; rfl
    ·rw [if_neg (by decide), if_neg (by decide), if_pos (by decide), if_neg (by decide)]; rfl
    ·rw [if_neg (by decide), if_neg (by decide), if_neg (by decide), if_pos (by decide), if_neg (by decide)]; rfl
    ·rw [if_neg (by decide), if_neg (by decide), if_neg (by decide), if_neg (by decide), if_pos (by decide), if_neg (by decide)]; rfl
 ·rw [if_pos h1, if_pos h1]
theorem Qma (k : Int) (v : Q0) (n : Int) : (if k = 0 then some (v, n, (0 : Int)) else if k = 2 then some (⟨0, 0, [], []⟩, 0, 5) else some (⟨0, 0, [], []⟩, 0, k)) = some (if k = 0 then (v, n, 0) else (Q2m, 0, if k = 2 then 5 else k)) := by
 split
 ·rfl
 ·split <;> rfl
theorem Qvd (N : Nat) (code : Int) (s : List UInt8) (hs : Qdr s) (h : s.length < N) (hN : 20 < N) : Q1x N code s = some (Qco code s) := by
 simp only [Q1x, Z9, Option.bind_some, Q6, Qco]
 cases hb : ofB code with
 | false => simp only [Bool.not_false, if_true, true_or]; rfl
 | true =>
  have hw := Qej code hb
  simp only [Bool.not_true, Bool.false_eq_true, if_false, Bool.true_eq_false, false_or]
  cases hi : (ofS code).Items with
  | true => rfl
  | false =>
   simp only [Bool.false_eq_true, if_false]
   generalize ofS code = c at *
   have hz : (0 : Int) = ((0 : Nat) : Int) := rfl
   cases hw.shape hi with
   | sized w hsz hw' h12 hk hc =>
    rw [hsz, hw', Qab N s w hs (by omega) (by omega)]
    simp only [if_true, Option.bind_some, Int.toNat_natCast]
    by_cases hl : w ≤ s.length
    ·rw [if_pos hl]
     simp only []
     rw [Q8s N s w 0 hl, if_neg (by omega)]
     simp only [Option.bind_some, Q2c]
     have hlt := Q2g (s.take w)
     have h4 : 256 ^ (s.take w).length ≤ 256 ^ 4 := Nat.pow_le_pow_right (by omega) (by rw [List.length_take]; omega)
     have h5 : (256 : Nat) ^ 4 = 4294967296 := rfl
     unfold Qdr at hs
     rw [Q8x _ (by omega)]
     generalize hm : Q0o (s.take w) = m at *
     by_cases h6 : s.length - w < m
     ·rw [if_pos (by omega), if_pos h6]; rfl
     ·rw [if_neg (by omega), if_neg h6]
      rw [Qh _ (by omega), Q69 N s w m (by unfold Qdr; omega) hl (by omega), if_pos (by omega)]
      have hcl : ((s.drop w).take m).length ≤ s.length := by rw [List.length_take, List.length_drop]; omega
      simp only [Option.bind_some, Qp, Qt, Wy]
      rw [if_neg (by simp), Q6p N _ Qud (by dsimp only; omega) (by dsimp only; omega)]
      simp only [Option.bind_some, Wb]
      rw [Qma]
      unfold Qpe
      rw [show ((w + m : Nat) : Int) = (w : Int) + (m : Int) by push_cast; rfl]
    ·rw [if_neg hl, if_pos (by omega)]
     simp only []
     have := Q8s N s 0 3 (by omega)
     rw [← hz] at this
     rw [this]
     simp only [Option.bind_some, Q2c]
     unfold Qdr at hs
     rw [Q8x _ (by omega), if_neg (by omega)]
     have e0 : Qs N ⟨s, 0, 3⟩ (IntKind.i64.wrap 0) = some ([], ⟨s, 0, 3⟩) := by
      simp only [Qs, J7, Option.bind_some, Q6]
      rfl
     rw [e0]
     simp only [Option.bind_some, Qp, Wy]
     rw [if_pos (by decide)]; rfl
   | wide hsz hw' hk hc =>
    rw [hsz, hw']
    simp only [Bool.false_eq_true, if_false, Wb, if_true]
    have := Q69 N s 0 16 hs (by omega) (by omega)
    rw [← hz, show ((16 : Nat) : Int) = 16 from rfl] at this
    rw [this]
    simp only [Nat.sub_zero, List.drop_zero, Option.bind_some]
    by_cases hl : 16 ≤ s.length
    ·rw [if_pos hl, if_neg (by omega)]
     have hcl : (s.take 16).length ≤ s.length := by rw [List.length_take]; omega
     unfold Qdr at hs
     simp only [Option.bind_some, Qp, Qt, Wy]
     rw [if_neg (by simp), Q6p N _ Qud (by dsimp only; omega) (by dsimp only; omega)]
     simp only [Option.bind_some]
     rw [Qma]
     rfl
    ·rw [if_neg hl, if_pos (by omega)]
     simp only [Qp, Option.bind_some, Wy]
     rw [if_pos (by decide)]; rfl
   | num w hsz hw' hh ht hc hbb =>
    rw [hsz, hw']
    simp only [Bool.false_eq_true, if_false, Wb, Int.toNat_natCast]
    rw [if_neg (by omega), if_neg (show ¬ ((w : Int) = 16) by omega)]
    by_cases h65 : c.Code = 65
    ·obtain ⟨rfl, hk2⟩ := hc h65
     rw [if_pos h65, if_pos h65, if_neg (by omega)]
     simp only [Option.bind_some, Qp, Qt, Wy]
     rw [if_neg (by simp), Q6p N _ Z0c (by simp only [List.length_nil]; omega) (by simp only [List.length_nil]; omega)]
     simp only [Option.bind_some]
     rw [Qma]
     rfl
    ·rw [if_neg h65, if_neg h65, Qab N s w hs (by omega) (by omega)]
     simp only [Option.bind_some]
     by_cases hl : w ≤ s.length
     ·rw [if_pos hl, if_neg (by omega)]
      have hlt := Q2g (s.take w)
      rw [List.length_take, Nat.min_eq_left hl] at hlt
      simp only []
      rw [Qnb N c _ w hw' hh hlt]
      simp only [Option.bind_some, Qp, Qt, Wy]
      have hu : okU (Q0n c (Q0o (s.take w) : Nat)) := by
       rcases hh with rfl | hh
       ·have : Q0n c (Q0o (s.take 0) : Nat) = 0 := by
         unfold Q0n
         rw [if_neg (by omega)]; rfl
        rw [this]; exact ⟨by decide, by decide⟩
       ·exact (Qda hw' (by omega) hlt).1
      rw [if_neg (by simp), Q6p N _ hu (by simp only [List.length_nil]; omega) (by simp only [List.length_nil]; omega)]
      simp only [Option.bind_some]
      rw [Qma]
      rfl
     ·rw [if_neg hl, if_pos (by omega)]
      simp only []
      rw [hz, Qnb N c 0 w hw' hh (Nat.pow_pos (by omega))]
      simp only [Option.bind_some, Qp, Wy]
      rw [if_pos (by decide)]; rfl
end
end Go.Av
namespace Go.Av
noncomputable section
open Go.Proofs
set_option maxRecDepth 100000
theorem Q0.ext' {v w : Q0} (h1 : v.Kind = w.Kind) (h2 : v.N' = w.N') (h3 : v.Text = w.Text) (h4 : v.Items = w.Items) : v = w := by
 cases v; cases w; simp_all
theorem Qd0 {k : Int} (h : 19 ≤ k ∧ k ≤ 21) : Q30 k = true := by
 unfold Q30; exact decide_eq_true (by omega)
theorem Qp3 {k : Int} (h : k = 15 ∨ k = 18) : Q30 k = true := by
 unfold Q30; exact decide_eq_true (by omega)
theorem Q8a {code : Int} {v : Q0} (hf : Q34 code v = true) : (Q2e (ofS code) v).length = (ofS code).Width.toNat + (if (ofS code).Sized then v.Text.length else 0) := by
 obtain ⟨f1, f2, f3, f4⟩ := Q3h hf
 obtain ⟨c1, c2, c3, c4, c5, c6, c7⟩ := Gd f3
 have hw := Qej code f1
 have hi := Q13 hw (by omega)
 unfold Q2e
 cases hw.shape hi with
 | sized w hs hw' h12 hk hc => rw [hs]; simp [Yk]
 | wide hs hw' hk hc =>
  rw [hs, hw']
  simp [c6 (by omega)]
 | num w hs hw' hh ht hc hbb =>
  rw [hs, hw']
  simp only [Bool.false_eq_true, if_false]
  rw [if_neg (by omega), Yk]; rfl
theorem Qtp {code : Int} {v : Q0} {w : Nat} (_hn : okU v.N') (hf : Q34 code v = true) (hs : (ofS code).Sized = false) (hw' : (ofS code).Width = w) (hh : w = 1 ∨ w = 2 ∨ w = 4 ∨ w = 8) (h65 : (ofS code).Code ≠ 65)
  (hbb : 2 ≤ w → (Gj (ofS code).Kind).1 = 8 * w) : Q1p v.N' (8 * w) (Gj (ofS code).Kind).2 = true := by
 obtain ⟨f1, f2, f3, f4⟩ := Q3h hf
 obtain ⟨c1, c2, c3, c4, c5, c6, c7⟩ := Gd f3
 unfold Q6w at f4
 rw [if_neg h65, hs, hw'] at f4
 simp only [Bool.false_eq_true, if_false] at f4
 rw [if_neg (by omega)] at f4
 by_cases h1 : w = 1
 ·subst h1
  rw [if_pos (by decide)] at f4
  exact f4
 ·simp only [Q8p, Bool.and_eq_true] at c3
  have := c3.1
  rw [← f2, hbb (by omega)] at this
  exact this
theorem Qzg {code : Int} {v : Q0} (hn : okU v.N') (hf : Q34 code v = true) (s : List UInt8) : Qco code (Q2e (ofS code) v ++ s) = (v, ((Q2e (ofS code) v).length : Int), 0) := by
 have hlen := Q8a hf
 obtain ⟨f1, f2, f3, f4⟩ := Q3h hf
 obtain ⟨c1, c2, c3, c4, c5, c6, c7⟩ := Gd f3
 have hw := Qej code f1
 have hi := Q13 hw (by omega)
 have nf := fun w => Qtp (w := w) hn hf
 unfold Qco
 rw [f1, hi, if_neg (by simp)]
 have hd : Q2e (ofS code) v = Q2e (ofS code) v := rfl
 unfold Q2e at hd hlen ⊢
 cases hw.shape hi with
 | sized w hs hw' h12 hk hc =>
  simp only [hs, hw', if_true, Int.toNat_natCast, List.append_assoc]
  have hbl := Yk w v.Text.length
  have e1 : (Q05 v.Text.length w ++ (v.Text ++ s)).take w = Q05 v.Text.length w := List.take_left' hbl
  have e2 : (Q05 v.Text.length w ++ (v.Text ++ s)).drop w = v.Text ++ s := List.drop_left' hbl
  have htx : Q30 v.Kind = true := Qd0 (by omega)
  have hn0 := Qka htx c3 hn.1
  have e3 : v.Text.length % 256 ^ w = v.Text.length := by
   apply Nat.mod_eq_of_lt
   unfold Q6w at f4
   rw [if_neg hc, hs, if_pos rfl, hw'] at f4
   rcases h12 with rfl | rfl
   ·simp at f4; omega
   ·omega
  rw [e1, e2, Qcl, e3, List.take_left' rfl]
  rw [if_neg (by simp [hbl]; omega), if_neg (by simp [hbl])]
  have ev : (⟨(ofS code).Kind, 0, v.Text, []⟩ : Q0) = v := Q0.ext' f2 hn0.symm rfl c4.symm
  rw [ev, Qpe, if_pos f3]
  simp [hbl]
 | wide hs hw' hk hc =>
  simp only [hs, hw', Bool.false_eq_true, if_false, if_true]
  have h16 := c6 (by omega)
  have htx : Q30 v.Kind = true := Qp3 (by omega)
  have hn0 := Qka htx c3 hn.1
  rw [if_neg (by simp [h16]; omega), List.take_left' h16]
  have ev : (⟨(ofS code).Kind, 0, v.Text, []⟩ : Q0) = v := Q0.ext' f2 hn0.symm rfl c4.symm
  rw [ev, Qpe, if_pos f3]
  simp [h16]
 | num w hs hw' hh ht hc hbb =>
  simp only [hs, hw', Bool.false_eq_true, if_false, Int.toNat_natCast]
  have h16 : ¬ ((w : Int) = 16) := by omega
  have hbl := Yk w v.N'.toNat
  have ht0 := c5 (by rw [← f2]; exact ht)
  simp only [h16, if_false]
  rw [if_neg (by simp [hbl]; omega)]
  by_cases h65 : (ofS code).Code = 65
  ·obtain ⟨rfl, hk2⟩ := hc h65
   rw [if_pos h65]
   have hn1 : v.N' = 1 := by
    unfold Q6w at f4
    rw [if_pos h65] at f4
    simpa using f4
   have ev : (⟨(ofS code).Kind, 1, [], []⟩ : Q0) = v := Q0.ext' f2 hn1.symm ht0.symm c4.symm
   rw [ev, Qpe, if_pos f3]
   simp [hbl]
  ·rw [if_neg h65, List.take_left' hbl, Qcl]
   have e : Q0n (ofS code) ((v.N'.toNat % 256 ^ w : Nat) : Int) = v.N' := by
    rcases hh with rfl | hh
    ·unfold Q6w at f4
     rw [if_neg h65, hs, hw'] at f4
     simp at f4
     unfold Q0n
     rw [if_neg (by omega), f4]; rfl
    ·exact Qr5 hw' hh hn (nf w hs hw' hh h65 hbb)
   rw [e]
   have ev : (⟨(ofS code).Kind, v.N', [], []⟩ : Q0) = v := Q0.ext' f2 rfl ht0.symm c4.symm
   rw [ev, Qpe, if_pos f3]
   simp [hbl]
end
end Go.Av
namespace Go.Av
noncomputable section
open Go.Proofs
set_option maxRecDepth 100000
theorem Qmi {v x : Q0} {n m : Int} (h : Qpe v n = (x, m, 0)) : Vx v = 0 ∧ x = v ∧ m = n := by
 unfold Qpe at h
 split at h
 ·rename_i h0
  cases h
  exact ⟨h0, rfl, rfl⟩
 ·rename_i h0
  simp only [Prod.mk.injEq] at h
  split at h <;> omega
theorem reads {code : Int} {s : List UInt8} {x : Q0} {n : Int} (hs : Qdr s) (h : Qco code s = (x, n, 0)) : 0 ≤ n ∧ n ≤ s.length ∧ okU x.N' ∧ x.Text.length ≤ s.length ∧ Vx x = 0 ∧ Q34 code x = true ∧ Q2e (ofS code) x = s.take n.toNat := by
 unfold Qco at h
 split at h
 ·cases h
 rename_i h1
 have hb : ofB code = true := by
  cases hb : ofB code with
  | true => rfl
  | false => exact absurd (.inl hb) h1
 have hi : (ofS code).Items = false := by
  cases hi : (ofS code).Items with
  | false => rfl
  | true => exact absurd (.inr hi) h1
 have hw := Qej code hb
 split at h
 ·cases h
 rename_i h2
 have fit : ∀ v : Q0, v.Kind = (ofS code).Kind → Vx v = 0 → Q6w (ofS code) v = true → Q34 code v = true := fun v q1 q2 q3 => by
  simp only [Q34, hb, q1, q2, q3, decide_true, Bool.and_self]
 have hd : ∀ v, Q2e (ofS code) v = Q2e (ofS code) v := fun _ => rfl
 unfold Qdr at hs
 cases hw.shape hi with
 | sized w hsz hw' h12 hk hc =>
  simp only [hsz, hw', if_true, Int.toNat_natCast] at h
  split at h
  ·cases h
  rename_i h3
  obtain ⟨q1, rfl, rfl⟩ := Qmi h
  have hlw : w ≤ s.length := by omega
  have hmlt := Q2g (s.take w)
  rw [List.length_take, Nat.min_eq_left hlw] at hmlt
  have hbn := Qq9 (s.take w)
  rw [List.length_take, Nat.min_eq_left hlw] at hbn
  generalize hm : Q0o (s.take w) = m at *
  have hlen : ((s.drop w).take m).length = m := by rw [List.length_take, List.length_drop]; omega
  refine ⟨by omega, by omega, Qud, by simp only [hlen]; omega, q1, fit _ rfl q1 ?_, ?_⟩
  ·unfold Q6w
   rw [if_neg hc, hsz, if_pos rfl, hw']
   rcases h12 with rfl | rfl
   ·simp only [hlen]
    simp at hmlt
    exact decide_eq_true (.inr (by omega))
   ·exact decide_eq_true (.inl rfl)
  ·unfold Q2e
   simp only [hsz, if_true, hw', Int.toNat_natCast, hlen, hbn]
   rw [show ((w : Int) + (m : Int)).toNat = w + m by omega, List.take_add]
 | wide hsz hw' hk hc =>
  simp only [hsz, hw', Bool.false_eq_true, if_false, if_true] at h
  obtain ⟨q1, rfl, rfl⟩ := Qmi h
  refine ⟨by omega, by omega, Qud, by simp only [List.length_take]; omega, q1, fit _ rfl q1 ?_, ?_⟩
  ·unfold Q6w
   rw [if_neg hc, hsz, hw']; rfl
  ·unfold Q2e
   simp only [hsz, hw', Bool.false_eq_true, if_false, if_true]
   rfl
 | num w hsz hw' hh ht hc hbb =>
  simp only [hsz, hw', Bool.false_eq_true, if_false, Int.toNat_natCast] at h
  rw [if_neg (show ¬ ((w : Int) = 16) by omega)] at h
  split at h
  ·rename_i h65
   obtain ⟨rfl, hk2⟩ := hc h65
   obtain ⟨q1, rfl, rfl⟩ := Qmi h
   refine ⟨by omega, by omega, Z0c, by simp, q1, fit _ rfl q1 ?_, ?_⟩
   ·unfold Q6w
    rw [if_pos h65]; rfl
   ·unfold Q2e
    simp only [hsz, hw', Bool.false_eq_true, if_false]
    rfl
  ·rename_i h65
   obtain ⟨q1, rfl, rfl⟩ := Qmi h
   have hlw : w ≤ s.length := by omega
   have hlt := Q2g (s.take w)
   have hbn := Qq9 (s.take w)
   rw [List.length_take, Nat.min_eq_left hlw] at hlt hbn
   rcases hh with rfl | hh
   ·have e0 : Q0n (ofS code) (Q0o (s.take 0) : Nat) = 0 := by
     unfold Q0n
     rw [if_neg (by omega)]; rfl
    rw [e0] at q1 ⊢
    refine ⟨by omega, by omega, Qud, by simp, q1, fit _ rfl q1 ?_, ?_⟩
    ·unfold Q6w
     rw [if_neg h65, hsz, hw']; rfl
    ·unfold Q2e
     simp only [hsz, hw', Bool.false_eq_true, if_false]
     rfl
   ·obtain ⟨w1, w2, w3⟩ := Qda hw' hh hlt
    refine ⟨by omega, by omega, w1, by simp, q1, fit _ rfl q1 ?_, ?_⟩
    ·unfold Q6w
     rw [if_neg h65, hsz, hw']
     simp only [Bool.false_eq_true, if_false]
     rw [if_neg (by omega)]
     split
     ·rename_i h1
      have : w = 1 := by omega
      subst this
      exact w3
     ·rfl
    ·unfold Q2e
     simp only [hsz, hw', Bool.false_eq_true, if_false, Int.toNat_natCast]
     rw [if_neg (by omega), ← Qmx, w2, hbn]
end
end Go.Av
namespace Go.Av
noncomputable section
open Go.Proofs
set_option maxRecDepth 100000
def refTab : List Qg := (V3 0).getD []
theorem Qiq (N : Nat) : V3 N = some refTab := rfl
theorem Q7w : refTab.length = 40 := rfl
def Qyu (c : Qg) : Int × Int × Int × Bool × Bool := (c.Code, c.Kind, c.Width, c.Sized, c.Items)
theorem Qtx {c d : Qg} (h : Qyu c = Qyu d) : c = d := by
 cases c; cases d
 simp only [Qyu, Prod.mk.injEq] at h
 simp [h]
def Z05 : Option Qg → Qg × Bool
 | some c => (c, true)
 | none => (⟨0, 0, 0, false, false⟩, false)
theorem Qnj (N : Nat) (code : Int) (l : List Qg) (hl : l.length < 1000) : ∀ (n i : Nat), i ≤ l.length → l.length - i < n → V1 N code l n (i : Int) = some (Z05 ((l.drop i).find? (fun c => decide (c.Code = code))))
 | 0, i, _, h => by omega
 | n + 1, i, hi, hn => by
  simp only [V1, Q6, Y6, Wb, Gq, Za]
  by_cases h : i < l.length
  ·rw [if_pos (by omega), List.getElem?_eq_getElem h, List.drop_eq_getElem_cons h, List.find?_cons]
   simp only [Option.bind_some]
   by_cases hc : l[i].Code = code
   ·rw [if_pos hc, decide_eq_true hc]; rfl
   ·rw [if_neg hc, decide_eq_false hc, Qh _ (by omega)]
    exact_mod_cast Qnj N code l hl n (i + 1) (by omega) (by omega)
  ·rw [if_neg (by omega), List.drop_of_length_le (by omega)]; rfl
def Z1v (n : Nat) : Bool := decide ((Qyu (Z05 (refTab.find? (fun c => decide (c.Code = (n : Int))))).1, (Z05 (refTab.find? (fun c => decide (c.Code = (n : Int))))).2) = (Qyu (ofS n), ofB n))
theorem Qt2 : ((List.range 256).all Z1v) = true := by decide +kernel
theorem Q7u {code : Int} (h : ofB code = true) : 0 ≤ code ∧ code < 256 := by
 have h1 : bsI code < 40 ∧ Q16 (bsI code) = code := by simpa [ofB] using h
 have hall : ((List.range 40).all fun k => decide (0 ≤ Q16 k ∧ Q16 k < 256)) = true := by decide +kernel
 have := List.all_eq_true.1 hall (bsI code) (by simpa using h1.1)
 rw [h1.2] at this
 simpa using this
theorem Qqw : (refTab.all fun c => decide (0 ≤ c.Code ∧ c.Code < 256)) = true := by decide +kernel
theorem Q4b (N : Nat) (code : Int) (hN : 50 < N) : Zn N code = some (ofS code, ofB code) := by
 simp only [Zn, Qiq, Option.bind_some]
 have := Qnj N code refTab (by rw [Q7w]; omega) N 0 (by omega) (by rw [Q7w]; omega)
 rw [show ((0 : Nat) : Int) = 0 from rfl] at this
 rw [this, List.drop_zero, Option.some.injEq]
 by_cases h : 0 ≤ code ∧ code < 256
 ·have h1 := List.all_eq_true.1 Qt2 code.toNat (by simp; omega)
  simp only [Z1v, show ((code.toNat : Nat) : Int) = code by omega, decide_eq_true_eq, Prod.mk.injEq] at h1
  exact Prod.ext (Qtx h1.1) h1.2
 ·have hb : ofB code = false := by
   cases hb : ofB code with
   | false => rfl
   | true => exact absurd (Q7u hb) h
  have hf : refTab.find? (fun c => decide (c.Code = code)) = none := by
   rw [List.find?_eq_none]
   intro c hc hcc
   have := List.all_eq_true.1 Qqw c hc
   simp only [decide_eq_true_eq] at this hcc
   omega
  rw [hf, hb, Qha code hb]; rfl
theorem Q8z (N : Nat) (kind : Int) (l : List Qg) (hl : l.length < 1000) : ∀ (n i : Nat) (acc : List Int), i ≤ l.length → l.length - i < n → acc.length ≤ i → Yg N kind l n (i : Int) acc = some (acc ++ ((l.drop i).filter (fun c => decide (c.Kind = kind))).map (·.Code))
 | 0, i, acc, _, h, _ => by omega
 | n + 1, i, acc, hi, hn, ha => by
  simp only [Yg, Q6, Y6, Wb, Gq, Za]
  by_cases h : i < l.length
  ·rw [if_pos (by omega), List.getElem?_eq_getElem h, List.drop_eq_getElem_cons h, List.filter_cons]
   simp only [Option.bind_some]
   by_cases hc : l[i].Kind = kind
   ·rw [if_pos hc, decide_eq_true hc, if_pos (by simp [Nat.ble_eq]; omega), Qh _ (by omega)]
    have := Q8z N kind l hl n (i + 1) (acc ++ [l[i].Code]) (by omega) (by omega) (by simp; omega)
    rw [show ((i : Int) + 1) = ((i + 1 : Nat) : Int) by push_cast; rfl, this]
    simp
   ·rw [if_neg hc, decide_eq_false hc, Qh _ (by omega)]
    have := Q8z N kind l hl n (i + 1) acc (by omega) (by omega) (by omega)
    rw [show ((i : Int) + 1) = ((i + 1 : Nat) : Int) by push_cast; rfl, this]
    simp
  ·rw [if_neg (by omega), List.drop_of_length_le (by omega)]; simp
theorem Quf : ((List.range 26).all fun k => decide ((refTab.filter (fun c => decide (c.Kind = (k : Int)))).map (·.Code) = Ju k)) = true := by decide +kernel
theorem Qo7 : (refTab.all fun c => decide (1 ≤ c.Kind ∧ c.Kind ≤ 25)) = true := by decide +kernel
theorem Qkv (N : Nat) (kind : Int) (hN : 50 < N) : Ui N kind = some (Ju kind) := by
 simp only [Ui, Qiq, Option.bind_some]
 have := Q8z N kind refTab (by rw [Q7w]; omega) N 0 [] (by omega) (by rw [Q7w]; omega) (by simp)
 rw [show ((0 : Nat) : Int) = 0 from rfl] at this
 rw [this, List.drop_zero, List.nil_append, Option.some.injEq]
 by_cases h : kind < 1 ∨ 25 < kind
 ·rw [Q8b kind h, List.map_eq_nil_iff, List.filter_eq_nil_iff]
  intro c hc hcc
  have := List.all_eq_true.1 Qo7 c hc
  simp only [decide_eq_true_eq] at this hcc
  omega
 ·have h1 := List.all_eq_true.1 Quf kind.toNat (by simp; omega)
  simp only [show ((kind.toNat : Nat) : Int) = kind by omega, decide_eq_true_eq] at h1
  exact h1
theorem Qtg (s : List UInt8) (i k lo hi : Nat) : inB (s.drop i) k lo hi = inB s (i + k) lo hi := by
 unfold inB
 rw [List.getElem?_drop]
theorem Q5r (N : Nat) (s : List UInt8) (i k lo hi : Nat) : Qc N s ((i + k : Nat) : Int) (lo : Int) (hi : Int) = some (inB (s.drop i) k lo hi) := by
 rw [Qtg]
 simp only [Qc, Q6, Y6, Qcc, Za, inB]
 by_cases h : i + k < s.length
 ·rw [if_pos (by omega), List.getElem?_eq_getElem h]
  simp only [Option.bind_some]
  by_cases h1 : lo ≤ s[i + k].toNat
  ·rw [if_pos (by omega)]
   simp only [Q5, h1, true_and, Option.some.injEq, decide_eq_decide]; omega
  ·rw [if_neg (by omega)]
   simp only [h1, false_and, decide_false]
 ·rw [if_neg (by omega), List.getElem?_eq_none (by omega)]
def cpB (s : List UInt8) (b : Nat) : Nat := if b < 128 then 1
  else if 194 ≤ b ∧ b ≤ 223 then (if inB s 1 128 191 then 2 else 0)
  else if b = 224 then (if inB s 1 160 191 && inB s 2 128 191 then 3 else 0)
  else if b = 237 then (if inB s 1 128 159 && inB s 2 128 191 then 3 else 0)
  else if 225 ≤ b ∧ b ≤ 239 then (if inB s 1 128 191 && inB s 2 128 191 then 3 else 0)
  else if b = 240 then (if inB s 1 144 191 && inB s 2 128 191 && inB s 3 128 191 then 4 else 0)
  else if 241 ≤ b ∧ b ≤ 243 then (if inB s 1 128 191 && inB s 2 128 191 && inB s 3 128 191 then 4 else 0)
  else if b = 244 then (if inB s 1 128 143 && inB s 2 128 191 && inB s 3 128 191 then 4 else 0)
  else 0
theorem Qo5 (b : Nat) : (b < 128) ∨ (194 ≤ b ∧ b ≤ 223) ∨ (b = 224) ∨ (b = 237) ∨ (225 ≤ b ∧ b ≤ 239 ∧ b ≠ 237) ∨ (b = 240) ∨ (241 ≤ b ∧ b ≤ 243) ∨ (b = 244) ∨ (128 ≤ b ∧ b < 194) ∨ (244 < b) := by omega
theorem Qwd (N : Nat) (s : List UInt8) (i : Nat) (hb : s.length < 4611686018427387904) (hi : i < s.length) : Ja N s (i : Int) = some ((cpN (s.drop i) : Nat) : Int) := by
 have e1 : IntKind.i64.wrap ((i : Int) + 1) = ((i + 1 : Nat) : Int) := by rw [Qh _ (by omega)]; push_cast; rfl
 have e2 : IntKind.i64.wrap ((i : Int) + 2) = ((i + 2 : Nat) : Int) := by rw [Qh _ (by omega)]; push_cast; rfl
 have e3 : IntKind.i64.wrap ((i : Int) + 3) = ((i + 3 : Nat) : Int) := by rw [Qh _ (by omega)]; push_cast; rfl
 have c0 : Qc N s ((i + 1 : Nat) : Int) 128 191 = some (inB (s.drop i) 1 128 191) := Q5r N s i 1 128 191
 have c1 : Qc N s ((i + 2 : Nat) : Int) 128 191 = some (inB (s.drop i) 2 128 191) := Q5r N s i 2 128 191
 have c2 : Qc N s ((i + 3 : Nat) : Int) 128 191 = some (inB (s.drop i) 3 128 191) := Q5r N s i 3 128 191
 have c3 : Qc N s ((i + 1 : Nat) : Int) 160 191 = some (inB (s.drop i) 1 160 191) := Q5r N s i 1 160 191
 have c4 : Qc N s ((i + 1 : Nat) : Int) 128 159 = some (inB (s.drop i) 1 128 159) := Q5r N s i 1 128 159
 have c5 : Qc N s ((i + 1 : Nat) : Int) 144 191 = some (inB (s.drop i) 1 144 191) := Q5r N s i 1 144 191
 have c6 : Qc N s ((i + 1 : Nat) : Int) 128 143 = some (inB (s.drop i) 1 128 143) := Q5r N s i 1 128 143
 have hd : s.drop i = s[i] :: s.drop (i + 1) := List.drop_eq_getElem_cons hi
 have hcp : cpN (s.drop i) = cpB (s.drop i) s[i].toNat := by
  rw [hd]; rfl
 rw [hcp]
 simp only [Ja, W6, Zx, W4, Xy, Zj, Yo, Zz, Za, List.getElem?_eq_getElem hi, Option.bind_some, Q6, Y6, Qcc, Q75, Wb, Wy, e1, e2, e3]
 simp only [c0, c1, c2, c3, c4, c5, c6, Option.bind_some, cpB]
 generalize s[i].toNat = b
 generalize inB (s.drop i) 1 128 191 = q1
 generalize inB (s.drop i) 2 128 191 = q2
 generalize inB (s.drop i) 3 128 191 = q3
 generalize inB (s.drop i) 1 160 191 = q4
 generalize inB (s.drop i) 1 128 159 = q5
 generalize inB (s.drop i) 1 144 191 = q6
 generalize inB (s.drop i) 1 128 143 = q7
 rcases Qo5 b with h | h | h | h | h | h | h | h | h | h
 ·simp only [show ((b : Int) < 128) = True from eq_true (by omega), show ((b : Int) ≥ 194) = False from eq_false (by omega), show ((b : Int) ≤ 223) = True from eq_true (by omega), show ((b : Int) = 224) = False from eq_false (by omega), show ((b : Int) = 237) = False from eq_false (by omega), show ((b : Int) ≥ 225) = False from eq_false (by omega), show ((b : Int) ≤ 239) = True from eq_true (by omega), show ((b : Int) ≠ 237) = True from eq_true (by omega), show ((b : Int) = 240) = False from eq_false (by omega), show ((b : Int) ≥ 241) = False from eq_false (by omega), show ((b : Int) ≤ 243) = True from eq_true (by omega), show ((b : Int) = 244) = False from eq_false (by omega), show (b < 128) = True from eq_true (by omega), show (194 ≤ b ∧ b ≤ 223) = False from eq_false (by omega), show (b = 224) = False from eq_false (by omega), show (b = 237) = False from eq_false (by omega), show (225 ≤ b ∧ b ≤ 239) = False from eq_false (by omega), show (b = 240) = False from eq_false (by omega), show (241 ≤ b ∧ b ≤ 243) = False from eq_false (by omega), show (b = 244) = False from eq_false (by omega), if_true, if_false, ite_self, Bool.false_eq_true]
  try (cases q1 <;> cases q2 <;> cases q3 <;> cases q4 <;> cases q5 <;> cases q6 <;> cases q7 <;> rfl)
 ·simp only [show ((b : Int) < 128) = False from eq_false (by omega), show ((b : Int) ≥ 194) = True from eq_true (by omega), show ((b : Int) ≤ 223) = True from eq_true (by omega), show ((b : Int) = 224) = False from eq_false (by omega), show ((b : Int) = 237) = False from eq_false (by omega), show ((b : Int) ≥ 225) = False from eq_false (by omega), show ((b : Int) ≤ 239) = True from eq_true (by omega), show ((b : Int) ≠ 237) = True from eq_true (by omega), show ((b : Int) = 240) = False from eq_false (by omega), show ((b : Int) ≥ 241) = False from eq_false (by omega), show ((b : Int) ≤ 243) = True from eq_true (by omega), show ((b : Int) = 244) = False from eq_false (by omega), show (b < 128) = False from eq_false (by omega), show (194 ≤ b ∧ b ≤ 223) = True from eq_true (by omega), show (b = 224) = False from eq_false (by omega), show (b = 237) = False from eq_false (by omega), show (225 ≤ b ∧ b ≤ 239) = False from eq_false (by omega), show (b = 240) = False from eq_false (by omega), show (241 ≤ b ∧ b ≤ 243) = False from eq_false (by omega), show (b = 244) = False from eq_false (by omega), if_true, if_false, ite_self, Bool.false_eq_true]
  try (cases q1 <;> cases q2 <;> cases q3 <;> cases q4 <;> cases q5 <;> cases q6 <;> cases q7 <;> rfl)
 ·simp only [show ((b : Int) < 128) = False from eq_false (by omega), show ((b : Int) ≥ 194) = True from eq_true (by omega), show ((b : Int) ≤ 223) = False from eq_false (by omega), show ((b : Int) = 224) = True from eq_true (by omega), show ((b : Int) = 237) = False from eq_false (by omega), show ((b : Int) ≥ 225) = False from eq_false (by omega), show ((b : Int) ≤ 239) = True from eq_true (by omega), show ((b : Int) ≠ 237) = True from eq_true (by omega), show ((b : Int) = 240) = False from eq_false (by omega), show ((b : Int) ≥ 241) = False from eq_false (by omega), show ((b : Int) ≤ 243) = True from eq_true (by omega), show ((b : Int) = 244) = False from eq_false (by omega), show (b < 128) = False from eq_false (by omega), show (194 ≤ b ∧ b ≤ 223) = False from eq_false (by omega), show (b = 224) = True from eq_true (by omega), show (b = 237) = False from eq_false (by omega), show (225 ≤ b ∧ b ≤ 239) = False from eq_false (by omega), show (b = 240) = False from eq_false (by omega), show (241 ≤ b ∧ b ≤ 243) = False from eq_false (by omega), show (b = 244) = False from eq_false (by omega), if_true, if_false, ite_self, Bool.false_eq_true]
  try (cases q1 <;> cases q2 <;> cases q3 <;> cases q4 <;> cases q5 <;> cases q6 <;> cases q7 <;> rfl)
 ·simp only [show ((b : Int) < 128) = False from eq_false (by omega), show ((b : Int) ≥ 194) = True from eq_true (by omega), show ((b : Int) ≤ 223) = False from eq_false (by omega), show ((b : Int) = 224) = False from eq_false (by omega), show ((b : Int) = 237) = True from eq_true (by omega), show ((b : Int) ≥ 225) = True from eq_true (by omega), show ((b : Int) ≤ 239) = True from eq_true (by omega), show ((b : Int) ≠ 237) = False from eq_false (by omega), show ((b : Int) = 240) = False from eq_false (by omega), show ((b : Int) ≥ 241) = False from eq_false (by omega), show ((b : Int) ≤ 243) = True from eq_true (by omega), show ((b : Int) = 244) = False from eq_false (by omega), show (b < 128) = False from eq_false (by omega), show (194 ≤ b ∧ b ≤ 223) = False from eq_false (by omega), show (b = 224) = False from eq_false (by omega), show (b = 237) = True from eq_true (by omega), show (225 ≤ b ∧ b ≤ 239) = True from eq_true (by omega), show (b = 240) = False from eq_false (by omega), show (241 ≤ b ∧ b ≤ 243) = False from eq_false (by omega), show (b = 244) = False from eq_false (by omega), if_true, if_false, ite_self, Bool.false_eq_true]
  try (cases q1 <;> cases q2 <;> cases q3 <;> cases q4 <;> cases q5 <;> cases q6 <;> cases q7 <;> rfl)
 ·simp only [show ((b : Int) < 128) = False from eq_false (by omega), show ((b : Int) ≥ 194) = True from eq_true (by omega), show ((b : Int) ≤ 223) = False from eq_false (by omega), show ((b : Int) = 224) = False from eq_false (by omega), show ((b : Int) = 237) = False from eq_false (by omega), show ((b : Int) ≥ 225) = True from eq_true (by omega), show ((b : Int) ≤ 239) = True from eq_true (by omega), show ((b : Int) ≠ 237) = True from eq_true (by omega), show ((b : Int) = 240) = False from eq_false (by omega), show ((b : Int) ≥ 241) = False from eq_false (by omega), show ((b : Int) ≤ 243) = True from eq_true (by omega), show ((b : Int) = 244) = False from eq_false (by omega), show (b < 128) = False from eq_false (by omega), show (194 ≤ b ∧ b ≤ 223) = False from eq_false (by omega), show (b = 224) = False from eq_false (by omega), show (b = 237) = False from eq_false (by omega), show (225 ≤ b ∧ b ≤ 239) = True from eq_true (by omega), show (b = 240) = False from eq_false (by omega), show (241 ≤ b ∧ b ≤ 243) = False from eq_false (by omega), show (b = 244) = False from eq_false (by omega), if_true, if_false, ite_self, Bool.false_eq_true]
  try (cases q1 <;> cases q2 <;> cases q3 <;> cases q4 <;> cases q5 <;> cases q6 <;> cases q7 <;> rfl)
 ·simp only [show ((b : Int) < 128) = False from eq_false (by omega), show ((b : Int) ≥ 194) = True from eq_true (by omega), show ((b : Int) ≤ 223) = False from eq_false (by omega), show ((b : Int) = 224) = False from eq_false (by omega), show ((b : Int) = 237) = False from eq_false (by omega), show ((b : Int) ≥ 225) = True from eq_true (by omega), show ((b : Int) ≤ 239) = False from eq_false (by omega), show ((b : Int) ≠ 237) = True from eq_true (by omega), show ((b : Int) = 240) = True from eq_true (by omega), show ((b : Int) ≥ 241) = False from eq_false (by omega), show ((b : Int) ≤ 243) = True from eq_true (by omega), show ((b : Int) = 244) = False from eq_false (by omega), show (b < 128) = False from eq_false (by omega), show (194 ≤ b ∧ b ≤ 223) = False from eq_false (by omega), show (b = 224) = False from eq_false (by omega), show (b = 237) = False from eq_false (by omega), show (225 ≤ b ∧ b ≤ 239) = False from eq_false (by omega), show (b = 240) = True from eq_true (by omega), show (241 ≤ b ∧ b ≤ 243) = False from eq_false (by omega), show (b = 244) = False from eq_false (by omega), if_true, if_false, ite_self, Bool.false_eq_true]
  try (cases q1 <;> cases q2 <;> cases q3 <;> cases q4 <;> cases q5 <;> cases q6 <;> cases q7 <;> rfl)
 ·simp only [show ((b : Int) < 128) = False from eq_false (by omega), show ((b : Int) ≥ 194) = True from eq_true (by omega), show ((b : Int) ≤ 223) = False from eq_false (by omega), show ((b : Int) = 224) = False from eq_false (by omega), show ((b : Int) = 237) = False from eq_false (by omega), show ((b : Int) ≥ 225) = True from eq_true (by omega), show ((b : Int) ≤ 239) = False from eq_false (by omega), show ((b : Int) ≠ 237) = True from eq_true (by omega), show ((b : Int) = 240) = False from eq_false (by omega), show ((b : Int) ≥ 241) = True from eq_true (by omega), show ((b : Int) ≤ 243) = True from eq_true (by omega), show ((b : Int) = 244) = False from eq_false (by omega), show (b < 128) = False from eq_false (by omega), show (194 ≤ b ∧ b ≤ 223) = False from eq_false (by omega), show (b = 224) = False from eq_false (by omega), show (b = 237) = False from eq_false (by omega), show (225 ≤ b ∧ b ≤ 239) = False from eq_false (by omega), show (b = 240) = False from eq_false (by omega), show (241 ≤ b ∧ b ≤ 243) = True from eq_true (by omega), show (b = 244) = False from eq_false (by omega), if_true, if_false, ite_self, Bool.false_eq_true]
  try (cases q1 <;> cases q2 <;> cases q3 <;> cases q4 <;> cases q5 <;> cases q6 <;> cases q7 <;> rfl)
 ·simp only [show ((b : Int) < 128) = False from eq_false (by omega), show ((b : Int) ≥ 194) = True from eq_true (by omega), show ((b : Int) ≤ 223) = False from eq_false (by omega), show ((b : Int) = 224) = False from eq_false (by omega), show ((b : Int) = 237) = False from eq_false (by omega), show ((b : Int) ≥ 225) = True from eq_true (by omega), show ((b : Int) ≤ 239) = False from eq_false (by omega), show ((b : Int) ≠ 237) = True from eq_true (by omega), show ((b : Int) = 240) = False from eq_false (by omega), show ((b : Int) ≥ 241) = True from eq_true (by omega), show ((b : Int) ≤ 243) = False from eq_false (by omega), show ((b : Int) = 244) = True from eq_true (by omega), show (b < 128) = False from eq_false (by omega), show (194 ≤ b ∧ b ≤ 223) = False from eq_false (by omega), show (b = 224) = False from eq_false (by omega), show (b = 237) = False from eq_false (by omega), show (225 ≤ b ∧ b ≤ 239) = False from eq_false (by omega), show (b = 240) = False from eq_false (by omega), show (241 ≤ b ∧ b ≤ 243) = False from eq_false (by omega), show (b = 244) = True from eq_true (by omega), if_true, if_false, ite_self, Bool.false_eq_true]
  try (cases q1 <;> cases q2 <;> cases q3 <;> cases q4 <;> cases q5 <;> cases q6 <;> cases q7 <;> rfl)
 ·simp only [show ((b : Int) < 128) = False from eq_false (by omega), show ((b : Int) ≥ 194) = False from eq_false (by omega), show ((b : Int) ≤ 223) = True from eq_true (by omega), show ((b : Int) = 224) = False from eq_false (by omega), show ((b : Int) = 237) = False from eq_false (by omega), show ((b : Int) ≥ 225) = False from eq_false (by omega), show ((b : Int) ≤ 239) = True from eq_true (by omega), show ((b : Int) ≠ 237) = True from eq_true (by omega), show ((b : Int) = 240) = False from eq_false (by omega), show ((b : Int) ≥ 241) = False from eq_false (by omega), show ((b : Int) ≤ 243) = True from eq_true (by omega), show ((b : Int) = 244) = False from eq_false (by omega), show (b < 128) = False from eq_false (by omega), show (194 ≤ b ∧ b ≤ 223) = False from eq_false (by omega), show (b = 224) = False from eq_false (by omega), show (b = 237) = False from eq_false (by omega), show (225 ≤ b ∧ b ≤ 239) = False from eq_false (by omega), show (b = 240) = False from eq_false (by omega), show (241 ≤ b ∧ b ≤ 243) = False from eq_false (by omega), show (b = 244) = False from eq_false (by omega), if_true, if_false, ite_self, Bool.false_eq_true]
  try (cases q1 <;> cases q2 <;> cases q3 <;> cases q4 <;> cases q5 <;> cases q6 <;> cases q7 <;> rfl)
 ·simp only [show ((b : Int) < 128) = False from eq_false (by omega), show ((b : Int) ≥ 194) = True from eq_true (by omega), show ((b : Int) ≤ 223) = False from eq_false (by omega), show ((b : Int) = 224) = False from eq_false (by omega), show ((b : Int) = 237) = False from eq_false (by omega), show ((b : Int) ≥ 225) = True from eq_true (by omega), show ((b : Int) ≤ 239) = False from eq_false (by omega), show ((b : Int) ≠ 237) = True from eq_true (by omega), show ((b : Int) = 240) = False from eq_false (by omega), show ((b : Int) ≥ 241) = True from eq_true (by omega), show ((b : Int) ≤ 243) = False from eq_false (by omega), show ((b : Int) = 244) = False from eq_false (by omega), show (b < 128) = False from eq_false (by omega), show (194 ≤ b ∧ b ≤ 223) = False from eq_false (by omega), show (b = 224) = False from eq_false (by omega), show (b = 237) = False from eq_false (by omega), show (225 ≤ b ∧ b ≤ 239) = False from eq_false (by omega), show (b = 240) = False from eq_false (by omega), show (241 ≤ b ∧ b ≤ 243) = False from eq_false (by omega), show (b = 244) = False from eq_false (by omega), if_true, if_false, ite_self, Bool.false_eq_true]
  try (cases q1 <;> cases q2 <;> cases q3 <;> cases q4 <;> cases q5 <;> cases q6 <;> cases q7 <;> rfl)

end
end Go.Av
namespace Go.Av
noncomputable section
open Go.Proofs
set_option maxRecDepth 100000
theorem Qz7 (s : List UInt8) : cpN s ≤ 4 := by
 unfold cpN
 split
 ·omega
 ·repeat' split
  all_goals omega
theorem Qqp (N : Nat) (s : List UInt8) (hb : s.length < 4611686018427387000) : ∀ (n i : Nat), s.length - i < n → i ≤ s.length + 4 → W3 N s n (i : Int) = some (J9 (s.drop i))
 | 0, i, h, _ => by omega
 | n + 1, i, h, hi => by
  simp only [W3, Q6, Y6, Wb]
  by_cases h1 : i < s.length
  ·rw [if_pos (by omega), Qwd N s i (by omega) h1]
   simp only [Option.bind_some]
   have h4 := Qz7 (s.drop i)
   have hne : s.drop i ≠ [] := by
    intro e
    have := congrArg List.length e
    rw [List.length_drop] at this
    simp at this; omega
   cases hc : cpN (s.drop i) with
   | zero =>
    rw [if_pos (by rfl), Q79 _ hne hc]
   | succ k =>
    rw [if_neg (by omega), Qh _ (by omega), Q4w _ k hc, List.drop_drop]
    have := Qqp N s hb n (i + (k + 1)) (by omega) (by omega)
    rw [show ((i : Int) + ((k + 1 : Nat) : Int)) = ((i + (k + 1) : Nat) : Int) by push_cast; rfl]
    exact this
  ·rw [if_neg (by omega), List.drop_of_length_le (by omega)]; rfl
theorem Qx9 (N : Nat) (s : List UInt8) (hb : s.length < 4611686018427387000) (h : s.length < N) : Zv N s = some (J9 s) := by
 have := Qqp N s hb N 0 (by omega) (by omega)
 unfold Zv
 simpa using this
theorem Qnn (N : Nat) (s : List UInt8) (hb : s.length < 4611686018427387000) : ∀ (n i : Nat), s.length - i < n → i ≤ s.length → Xb N s n (i : Int) = some (Q6u (s.drop i))
 | 0, i, h, _ => by omega
 | n + 1, i, h, hi => by
  simp only [Xb, Q6, Y6, Qcc, Za]
  by_cases h1 : i < s.length
  ·rw [if_pos (by omega), List.getElem?_eq_getElem h1]
   simp only [Option.bind_some]
   by_cases h2 : s[i].toNat < 128
   ·rw [if_neg (by omega), Qh _ (by omega), Qde _ _ h1 h2]
    exact_mod_cast Qnn N s hb n (i + 1) (by omega) (by omega)
   ·rw [if_pos (by omega)]
    have : Q6u (s.drop i) = false := by
     rw [List.drop_eq_getElem_cons h1]
     simp only [Q6u, List.all_cons, decide_eq_false h2, Bool.false_and]
    rw [this]
  ·rw [if_neg (by omega), List.drop_of_length_le (by omega)]; rfl
theorem Quw (N : Nat) (s : List UInt8) (hb : s.length < 4611686018427387000) (h : s.length < N) : Qr N s = some (Q6u s) := by
 have := Qnn N s hb N 0 (by omega) (by omega)
 unfold Qr
 simpa using this
theorem Qa2 (N : Nat) (n b : Int) (hn : okU n) (hb : b = 8 ∨ b = 16 ∨ b = 32) : Zq N n b = some (Q1p n b true) := by
 obtain ⟨h0, h1⟩ := hn
 unfold Zq Q1p s64
 simp only [Q6, Y6]
 rcases hb with rfl | rfl | rfl
 ·rw [if_pos (by decide), show Q0d .u64 1 (IntKind.u64.wrap (8 - 1)) = 128 by decide, show IntKind.u64.wrap (0 - 128) = 18446744073709551488 by decide]
  simp only [if_true, Q5]
  split
  ·rename_i h; rw [decide_eq_true]; simp; split <;> omega
  ·rename_i h; rw [Option.some.injEq, decide_eq_decide]; simp; split <;> omega
 ·rw [if_pos (by decide), show Q0d .u64 1 (IntKind.u64.wrap (16 - 1)) = 32768 by decide, show IntKind.u64.wrap (0 - 32768) = 18446744073709518848 by decide]
  simp only [if_true, Q5]
  split
  ·rename_i h; rw [decide_eq_true]; simp; split <;> omega
  ·rename_i h; rw [Option.some.injEq, decide_eq_decide]; simp; split <;> omega
 ·rw [if_pos (by decide), show Q0d .u64 1 (IntKind.u64.wrap (32 - 1)) = 2147483648 by decide, show IntKind.u64.wrap (0 - 2147483648) = 18446744071562067968 by decide]
  simp only [if_true, Q5]
  split
  ·rename_i h; rw [decide_eq_true]; simp; split <;> omega
  ·rename_i h; rw [Option.some.injEq, decide_eq_decide]; simp; split <;> omega
theorem kinds {k : Int} (h : 1 ≤ k ∧ k ≤ 21) : k = 1 ∨ k = 2 ∨ k = 3 ∨ k = 4 ∨ k = 5 ∨ k = 6 ∨ k = 7 ∨ k = 8 ∨ k = 9 ∨ k = 10 ∨ k = 11 ∨ k = 12 ∨ k = 13 ∨ k = 14 ∨ k = 15 ∨ k = 16 ∨ k = 17 ∨ k = 18 ∨ k = 19 ∨ k = 20 ∨ k = 21 := by omega
theorem rZ (n : Int) (h : okU n) : (some (Q5 .eql n 0) : Option Bool) = some (Q1p n 0 false) := by
 have := h.1
 simp only [Q1p, Option.some.injEq, Q5, Bool.false_eq_true, if_false]
 rw [Bool.eq_iff_iff]
 simp; omega
theorem rU (n b B : Int) (hb : IntKind.u64.wrap b = b) (h0 : 0 ≤ b) (hB : Q0d .u64 1 b = B) (h2 : B = 2 ^ b.toNat) : (if decide (0 ≤ IntKind.u64.wrap b) = true then some (Q5 .lss n (Q0d .u64 1 (IntKind.u64.wrap b))) else none) = some (Q1p n b false) := by
 rw [hb, if_pos (by simpa using h0), hB, h2]
 simp [Q1p, Q5]
theorem r64 (n : Int) (h : okU n) : (some true : Option Bool) = some (Q1p n 64 false) := by
 have := h.2
 simp only [Q1p, Bool.false_eq_true, if_false]
 rw [decide_eq_true]; simpa using this
theorem Z4g (n : Int) (h : okU n) : (some true : Option Bool) = some (Q1p n 64 true) := by
 have h1 := h.1
 have h2 := h.2
 unfold Q1p s64
 simp only [if_true]
 rw [decide_eq_true]
 simp
 split <;> omega
theorem Qru (N : Nat) (v : Q0) (hn : okU v.N') (hk : 1 ≤ v.Kind ∧ v.Kind ≤ 21) : Wm N v = some (Q8p v.Kind v.N') := by
 obtain ⟨k, n, t, is⟩ := v
 simp only at hn hk
 have z := rZ n hn
 have u8 := rU n 8 256 (by decide) (by decide) (by decide) (by decide)
 have u1 := rU n 1 2 (by decide) (by decide) (by decide) (by decide)
 have u16 := rU n 16 65536 (by decide) (by decide) (by decide) (by decide)
 have u32 := rU n 32 4294967296 (by decide) (by decide) (by decide) (by decide)
 have u64 := r64 n hn
 have s64' := Z4g n hn
 have s8 := Qa2 N n 8 hn (by simp)
 have s16 := Qa2 N n 16 hn (by simp)
 have s32 := Qa2 N n 32 hn (by simp)
 have w8 : IntKind.u64.wrap (IntKind.i64.wrap (0 - -8)) = 8 := by decide
 have w16 : IntKind.u64.wrap (IntKind.i64.wrap (0 - -16)) = 16 := by decide
 have w32 : IntKind.u64.wrap (IntKind.i64.wrap (0 - -32)) = 32 := by decide
 have tr : ∀ b : Bool, (b && true) = b := by decide
 simp only [Wm, Q8p]
 rcases kinds hk with rfl | rfl | rfl | rfl | rfl | rfl | rfl | rfl | rfl | rfl | rfl | rfl | rfl | rfl | rfl | rfl | rfl | rfl | rfl | rfl | rfl
 ·show _ = some (_ && true); rw [tr]; exact z
 ·show _ = some (_ && true); rw [tr]; simp only [show Qo N 2 = some 1 from rfl, Option.bind_some, Q6]; exact u1
 ·show _ = some (_ && true); rw [tr]; simp only [show Qo N 3 = some 8 from rfl, Option.bind_some, Q6]; exact u8
 ·show _ = some (_ && true); rw [tr]; simp only [show Qo N 4 = some 16 from rfl, Option.bind_some, Q6]; exact u16
 ·show _ = some (_ && true); rw [tr]; simp only [show Qo N 5 = some 32 from rfl, Option.bind_some, Q6]; exact u32
 ·show _ = some (_ && true); rw [tr]; exact u64
 ·show _ = some (_ && true); rw [tr]
  simp only [show Qo N 7 = some (-8) from rfl, Option.bind_some, Q6, w8, s8]; rfl
 ·show _ = some (_ && true); rw [tr]
  simp only [show Qo N 8 = some (-16) from rfl, Option.bind_some, Q6, w16, s16]; rfl
 ·show _ = some (_ && true); rw [tr]
  simp only [show Qo N 9 = some (-32) from rfl, Option.bind_some, Q6, w32, s32]; rfl
 ·show _ = some (_ && true); rw [tr]; exact s64'
 ·show _ = some (_ && true); rw [tr]; simp only [show Qo N 11 = some 32 from rfl, Option.bind_some, Q6]; exact u32
 ·show _ = some (_ && true); rw [tr]; exact u64
 ·show _ = some (_ && true); rw [tr]; simp only [show Qo N 13 = some 32 from rfl, Option.bind_some, Q6]; exact u32
 ·show _ = some (_ && true); rw [tr]; exact u64
 ·show _ = some (_ && true); rw [tr]; exact z
 ·show _ = some (_ && Qf9 n)
  have e : J3 N n = some (Qf9 n) := by
   unfold J3 Qf9
   simp only [Q6, Q75, Y6]
   split
   ·split
    ·rw [decide_eq_true (by omega)]
    ·simp only [Q5, Option.some.injEq, decide_eq_decide]; omega
   ·rw [decide_eq_false (by omega)]
  simp only [show Qo N 16 = some 32 from rfl, Option.bind_some, e]
  show some (Qf9 n) = _
  have h0 := hn.1
  cases hc : Qf9 n with
  | false => rw [Bool.and_false]
  | true =>
   rw [Bool.and_true]
   unfold Qf9 at hc
   simp only [decide_eq_true_eq] at hc
   simp only [show Gj 16 = (32, false) from rfl, Q1p, Bool.false_eq_true, if_false]
   rw [decide_eq_true]
   simp; omega
 ·show _ = some (_ && true); rw [tr]; exact s64'
 ·show _ = some (_ && true); rw [tr]; exact z
 ·show _ = some (_ && true); rw [tr]; exact z
 ·show _ = some (_ && true); rw [tr]; exact z
 ·show _ = some (_ && true); rw [tr]; exact z
theorem Quh (N : Nat) (k : Int) (h : k ≤ 21) : V0 N k = some (Q30 k) := by
 unfold V0 Q30
 simp only [Q6, Wb, Qcc]
 split
 ·rename_i h1; simp [h1]
 split
 ·simp only [Q5, Option.some.injEq, decide_eq_decide]; omega
 ·rw [decide_eq_false (by omega)]
theorem Qxu (v : Q0) : (((Q0.rows v.Items).length : Int) > 0) = (v.Items ≠ []) := by
 rw [Qn]
 apply propext
 cases v.Items <;> simp
theorem Q6l (N : Nat) (v : Q0) (hn : okU v.N') (h : v.Text.length < N) (hb : v.Text.length < 4611686018427387000) : Qy N v = some (Vx v) := by
 simp only [Qy, Q6, Wb, Y6, Q2c, Wy, G4, Qx9 N v.Text hb h, Quw N v.Text hb h, Qxu, Option.bind_some]
 have e3 : ((v.Text.length : Int) ≠ 16) = (v.Text.length ≠ 16) := by apply propext; omega
 have e4 : ((1048576 : Int) < v.Text.length) = (1048576 < v.Text.length) := by apply propext; omega
 have e4' : ((v.Text.length : Int) > 1048576) = (1048576 < v.Text.length) := by apply propext; omega
 simp only [e3, e4, gt_iff_lt]
 unfold Vx
 by_cases h1 : v.Kind < 1
 ·rw [if_pos (show v.Kind < 1 ∨ 21 < v.Kind from .inl h1), if_neg (show ¬ v.Kind = 15 by omega), if_pos h1]
 by_cases h2 : 21 < v.Kind
 ·rw [if_pos (show v.Kind < 1 ∨ 21 < v.Kind from .inr h2), if_neg (show ¬ v.Kind = 15 by omega), if_neg h1, if_pos h2]
 rw [if_neg (show ¬ (v.Kind < 1 ∨ 21 < v.Kind) by omega)]
 simp only [h1, h2, if_false, Qru N v hn (show 1 ≤ v.Kind ∧ v.Kind ≤ 21 by omega), Quh N v.Kind (show v.Kind ≤ 21 by omega), Option.bind_some]
 cases ho : Q8p v.Kind v.N' with
 | false => simp
 | true =>
  simp only [Bool.not_true, Bool.false_eq_true, if_false, Bool.true_eq_false, false_or]
  by_cases hi : v.Items = []
  ·simp only [hi, ne_eq, not_true_eq_false, if_false]
   by_cases h15 : v.Kind = 15
   ·have ht : Q30 15 = true := rfl
    simp only [ht, h15, if_true, Bool.not_true, Bool.false_eq_true, if_false, Bool.true_eq_false, true_or, true_and, show ¬ ((15 : Int) = 20) by decide, show ¬ ((15 : Int) = 21) by decide, Qk0]
    by_cases hl : v.Text.length = 16 <;> simp [hl]
   ·by_cases h18 : v.Kind = 18
    ·have ht : Q30 18 = true := rfl
     simp only [ht, h18, if_true, Bool.not_true, Bool.false_eq_true, if_false, Bool.true_eq_false, or_true, true_and, show ¬ ((18 : Int) = 20) by decide, show ¬ ((18 : Int) = 21) by decide, show ¬ ((18 : Int) = 15) by decide, Qk0]
     by_cases hl : v.Text.length = 16 <;> simp [hl]
    ·by_cases h20 : v.Kind = 20
     ·have ht : Q30 20 = true := rfl
      simp only [ht, h20, if_true, Bool.not_true, Bool.false_eq_true, if_false, Bool.true_eq_false, show ¬ ((20 : Int) = 18) by decide, show ¬ ((20 : Int) = 21) by decide, show ¬ ((20 : Int) = 15) by decide, Qk0, or_self, false_and]
      cases J9 v.Text <;> split <;> simp_all
     ·by_cases h21 : v.Kind = 21
      ·have ht : Q30 21 = true := rfl
       simp only [ht, h21, if_true, Bool.not_true, Bool.false_eq_true, if_false, Bool.true_eq_false, show ¬ ((21 : Int) = 18) by decide, show ¬ ((21 : Int) = 20) by decide, show ¬ ((21 : Int) = 15) by decide, Qk0, or_self, false_and]
       cases Q6u v.Text <;> split <;> simp_all
      ·simp only [h15, h18, h20, h21, if_false, or_self, false_and, Qk0]
       cases ht : Q30 v.Kind with
       | false =>
        simp only [Bool.not_false, if_true]
        by_cases htt : v.Text = [] <;> simp [htt]
       | true =>
        simp only [Bool.not_true, Bool.false_eq_true, if_false, Bool.true_eq_false]
        split <;> rfl
  ·simp [hi]
end
end Go.Av
namespace Go.Av
noncomputable section
open Go.Proofs
set_option maxRecDepth 100000
def Qrt (k : Nat) : Bool := (Uk k).2.2.2.2 || (Uk k).2.2.2.1 || !decide ((Uk k).2.2.1 = 1) || decide (((Uk k).1 = 80 ∧ (Uk k).2.1 = 3) ∨ ((Uk k).1 = 81 ∧ (Uk k).2.1 = 7) ∨ ((Uk k).1 = 82 ∧ (Uk k).2.1 = 5) ∨ ((Uk k).1 = 83 ∧ (Uk k).2.1 = 6) ∨ ((Uk k).1 = 84 ∧ (Uk k).2.1 = 9) ∨ ((Uk k).1 = 85 ∧ (Uk k).2.1 = 10) ∨ ((Uk k).1 = 86 ∧ (Uk k).2.1 = 2))
theorem Qp7 : ((List.range 40).all Qrt) = true := by decide +kernel
def Z2u (k : Nat) : Bool := decide ((Uk k).2.1 = 17 → (Uk k).2.2.1 = 8)
theorem Qxt : ((List.range 40).all Z2u) = true := by decide +kernel
theorem Qn4 {P : Int × Int × Int × Bool × Bool → Prop} {B : Nat → Bool} (hB : ((List.range 40).all B) = true) (hP : ∀ k, B k = true → P (Uk k)) {code : Int} (h : ofB code = true) : P (ofT code) := by
 have h1 : bsI code < 40 ∧ Q16 (bsI code) = code := by simpa [ofB] using h
 have := List.all_eq_true.1 hB (bsI code) (by simpa using h1.1)
 have e : ofT code = Uk (bsI code) := by unfold ofT; rw [if_pos h]
 rw [e]; exact hP _ this
theorem Qyb {code : Int} (h : ofB code = true) (hi : (ofS code).Items = false) (hs : (ofS code).Sized = false) (hw : (ofS code).Width = 1) :
  (code = 80 ∧ (ofS code).Kind = 3) ∨ (code = 81 ∧ (ofS code).Kind = 7) ∨ (code = 82 ∧ (ofS code).Kind = 5) ∨ (code = 83 ∧ (ofS code).Kind = 6) ∨ (code = 84 ∧ (ofS code).Kind = 9) ∨ (code = 85 ∧ (ofS code).Kind = 10) ∨ (code = 86 ∧ (ofS code).Kind = 2) := by
 have hc := (Qej code h).code
 have := Qn4 (P := fun t => t.2.2.2.2 = false → t.2.2.2.1 = false → t.2.2.1 = 1 → (t.1 = 80 ∧ t.2.1 = 3) ∨ (t.1 = 81 ∧ t.2.1 = 7) ∨ (t.1 = 82 ∧ t.2.1 = 5) ∨ (t.1 = 83 ∧ t.2.1 = 6) ∨ (t.1 = 84 ∧ t.2.1 = 9) ∨ (t.1 = 85 ∧ t.2.1 = 10) ∨ (t.1 = 86 ∧ t.2.1 = 2)) Qp7 (fun k hk h1 h2 h3 => by
  simp only [Qrt, h1, h2, h3, Bool.false_or, decide_true, Bool.not_true, decide_eq_true_eq] at hk
  exact hk) h
 have h2 := this hi hs hw
 have hc' : (ofT code).1 = code := hc
 rw [hc'] at h2
 exact h2
theorem Z00 {code : Int} (h : ofB code = true) (hk : (ofS code).Kind = 17) : (ofS code).Width = 8 :=
 Qn4 (P := fun t => t.2.1 = 17 → t.2.2.1 = 8) Qxt (fun _k hk => of_decide_eq_true hk) h hk
theorem o8x : ((List.range 4).all fun j => decide ((ofS (82 + (j : Int))).Sized = false ∧ (ofS (82 + (j : Int))).Width = 1)) = true := by decide +kernel
theorem Qqc {code : Int} (h : code = 82 ∨ code = 83 ∨ code = 84 ∨ code = 85) : (ofS code).Sized = false ∧ (ofS code).Width = 1 := by
 have := List.all_eq_true.1 o8x (code - 82).toNat (by simp; omega)
 simp only [decide_eq_true_eq] at this
 rwa [show ((82 : Int) + ((code - 82).toNat : Nat)) = code by omega] at this
theorem Qfl (N : Nat) (code : Int) (v : Q0) (hn : okU v.N') (h : v.Text.length < N) (hb : v.Text.length < 4611686018427387000) (hN : 50 < N) : Vk N code v = some (Q34 code v) := by
 simp only [Vk, Q4b N code hN, Option.bind_some, Q6, Q6l N v hn h hb, Wy, Wb, Qa2 N v.N' 8 hn (by simp), Q34]
 cases hob : ofB code with
 | false => rfl
 | true =>
  simp only [Bool.not_true, Bool.false_eq_true, if_false, Bool.true_and]
  by_cases hk : (ofS code).Kind = v.Kind
  ·rw [if_neg (show ¬ ((ofS code).Kind ≠ v.Kind) by simp [hk]), decide_eq_true hk, Bool.true_and]
   by_cases hc : Vx v = 0
   ·rw [if_neg (show ¬ (Vx v ≠ 0) by simp [hc]), decide_eq_true hc, Bool.true_and]
    obtain ⟨c1, c2, c3, c4, c5, c6, c7⟩ := Gd hc
    have hw := Qej code hob
    have hi := Q13 hw (by omega)
    have hcd := hw.code
    unfold Q6w
    rw [hcd]
    by_cases h65 : code = 65
    ·rw [if_pos h65, if_pos h65]; rfl
    rw [if_neg h65, if_neg h65]
    cases hw.shape hi with
    | sized w hs hw' h12 hk2 hcc =>
     rw [if_neg (show ¬ (ofS code).Width = 0 by omega), hs, if_pos rfl, if_pos rfl, hw']
     have n8 : ∀ c : Int, c = 82 ∨ c = 83 ∨ c = 84 ∨ c = 85 → code ≠ c := fun c hc e => by
      subst e
      have := (Qqc hc).1
      rw [hs] at this; cases this
     rw [if_neg (n8 82 (by simp)), if_neg (n8 83 (by simp)), if_neg (n8 84 (by simp)), if_neg (n8 85 (by simp))]
     rcases h12 with rfl | rfl
     ·rw [if_pos (by decide)]; simp only [Q5, Option.some.injEq, decide_eq_decide]; omega
     ·rw [if_neg (by decide)]; rfl
    | wide hs hw' hk2 hcc =>
     have n8 : ∀ c : Int, c = 82 ∨ c = 83 ∨ c = 84 ∨ c = 85 → code ≠ c := fun c hc e => by
      subst e
      have := (Qqc hc).2
      omega
     rw [hs, hw']
     simp only [n8 82 (by simp), n8 83 (by simp), n8 84 (by simp), n8 85 (by simp), if_false, Bool.false_eq_true, show ¬ ((16 : Int) = 0) by decide, show ¬ ((16 : Int) = 1) by decide]
    | num w hs hw' hh ht hcc hbb =>
     rw [hs, if_neg (show ¬ (false = true) by simp), if_neg (show ¬ (false = true) by simp)]
     by_cases h0 : (ofS code).Width = 0
     ·rw [if_pos h0, if_pos h0]; rfl
     rw [if_neg h0, if_neg h0]
     by_cases h1 : (ofS code).Width = 1
     ·rw [if_pos h1]
      have ok1 : Q1p v.N' (Gj v.Kind).1 (Gj v.Kind).2 = true := by
       simp only [Q8p, Bool.and_eq_true] at c3; exact c3.1
      rw [← hk] at ok1
      rcases Qyb hob hi hs h1 with ⟨e1, e2⟩ | ⟨e1, e2⟩ | ⟨e1, e2⟩ | ⟨e1, e2⟩ | ⟨e1, e2⟩ | ⟨e1, e2⟩ | ⟨e1, e2⟩
      ·rw [e2] at ok1 ⊢
       simp only [e1, show ¬ ((80 : Int) = 82) by decide, show ¬ ((80 : Int) = 83) by decide, show ¬ ((80 : Int) = 84) by decide, show ¬ ((80 : Int) = 85) by decide, if_false]
       exact congrArg some ok1.symm
      ·rw [e2] at ok1 ⊢
       simp only [e1, show ¬ ((81 : Int) = 82) by decide, show ¬ ((81 : Int) = 83) by decide, show ¬ ((81 : Int) = 84) by decide, show ¬ ((81 : Int) = 85) by decide, if_false]
       exact congrArg some ok1.symm
      ·rw [e2, e1, if_pos rfl]; rfl
      ·rw [e2, e1, if_neg (by decide), if_pos rfl]; rfl
      ·rw [e2, e1, if_neg (by decide), if_neg (by decide), if_pos rfl]; rfl
      ·rw [e2, e1, if_neg (by decide), if_neg (by decide), if_neg (by decide), if_pos rfl]; rfl
      ·rw [e2] at ok1 ⊢
       simp only [e1, show ¬ ((86 : Int) = 82) by decide, show ¬ ((86 : Int) = 83) by decide, show ¬ ((86 : Int) = 84) by decide, show ¬ ((86 : Int) = 85) by decide, if_false]
       have : Q1p v.N' 8 false = true := by
        simp only [show Gj 2 = (1, false) from rfl, Q1p, Bool.false_eq_true, if_false, decide_eq_true_eq] at ok1 ⊢
        simp at ok1 ⊢; omega
       exact congrArg some this.symm
     ·rw [if_neg h1]
      have n8 : ∀ c : Int, c = 82 ∨ c = 83 ∨ c = 84 ∨ c = 85 → code ≠ c := fun c hc e => by
       subst e
       exact h1 (Qqc hc).2
      rw [if_neg (n8 82 (by simp)), if_neg (n8 83 (by simp)), if_neg (n8 84 (by simp)), if_neg (n8 85 (by simp))]
   ·rw [if_pos (show Vx v ≠ 0 from hc), decide_eq_false hc]; rfl
  ·rw [if_pos (show (ofS code).Kind ≠ v.Kind from hk), decide_eq_false hk]; rfl
theorem Qvh (N w : Nat) (hw : w ≤ 8) : ∀ (k i n : Nat) (out : List UInt8), n < 18446744073709551616 → i ≤ w → w - i < k → out.length ≤ i → Wp N (w : Int) k (n : Int) out (i : Int) = some (Q05 n (w - i) ++ out)
 | 0, i, n, out, _, _, h, _ => by omega
 | k + 1, i, n, out, hn, hi, hk, ho => by
  simp only [Wp, Q6, Y6]
  by_cases h : i < w
  ·rw [if_pos (by omega), if_pos (by simp [Nat.ble_eq]; omega), Qh _ (by omega)]
   have e1 : Q4e .u64 (n : Int) 8 = ((n / 256 : Nat) : Int) := by
    simp only [Q4e]
    rw [show min (Int.toNat 8) IntKind.u64.bits = 8 from rfl, Int.fdiv_eq_ediv_of_nonneg _ (by decide)]
    push_cast; rfl
   have e2 : UInt8.ofNat (IntKind.u8.wrap (n : Int)).toNat = UInt8.ofNat (n % 256) := by
    rw [Qws]; congr 1
   have := Qvh N w hw k (i + 1) (n / 256) (UInt8.ofNat (n % 256) :: out) (by omega) (by omega) (by omega) (by simp; omega)
   rw [e1, e2, show ((i : Int) + 1) = ((i + 1 : Nat) : Int) by push_cast; rfl, List.singleton_append, this]
   obtain ⟨m, hm⟩ : ∃ m, w - i = m + 1 := ⟨w - i - 1, by omega⟩
   rw [hm, show w - (i + 1) = m by omega, Q05]
   simp
  ·rw [if_neg (by omega), show w - i = 0 by omega]; rfl
theorem Qg6 (N n w : Nat) (hn : n < 18446744073709551616) (hw : w ≤ 8) (hN : 10 < N) : Y4 N (n : Int) (w : Int) = some (Q05 n w) := by
 have := Qvh N w hw N 0 n [] hn (by omega) (by omega) (by simp)
 unfold Y4
 rw [show (0 : Int) = ((0 : Nat) : Int) from rfl, this]; simp
theorem Qpw (N : Nat) (code : Int) (v : Q0) (hn : okU v.N') (h : v.Text.length < N) (hb : v.Text.length < 4611686018427387000) (hN : 50 < N) : Jp N code v = some (Qsw code v) := by
 simp only [Jp, Q6l N v hn h hb, Qfl N code v hn h hb hN, Q4b N code hN, Option.bind_some, Q6, Wy, Wb, Qsw]
 by_cases h1 : Vx v = 0
 ·rw [if_neg (show ¬ (Vx v ≠ 0) by simp [h1]), if_neg (show ¬ (Vx v ≠ 0) by simp [h1])]
  cases hf : Q34 code v with
  | false => rfl
  | true =>
   obtain ⟨f1, f2, f3, f4⟩ := Q3h hf
   obtain ⟨c1, c2, c3, c4, c5, c6, c7⟩ := Gd f3
   have hw := Qej code f1
   have hi := Q13 hw (by omega)
   simp only [Bool.not_true, Bool.false_eq_true, if_false, Bool.true_eq_false]
   generalize ofS code = c at *
   unfold Q2e
   cases hw.shape hi with
   | sized w hs hw' h12 hk hc =>
    rw [hs, hw', Q8x _ (by omega), Qg6 N _ w (by omega) (by omega) (by omega)]
    simp only [if_true, Option.bind_some, Int.toNat_natCast]
    rw [if_pos (by simp [Nat.ble_eq, Yk]; omega)]
   | wide hs hw' hk hc => rw [hs, hw']; rfl
   | num w hs hw' hh ht hc hbb =>
    have e : v.N' = ((v.N'.toNat : Nat) : Int) := by have := hn.1; omega
    have hlt : v.N'.toNat < 18446744073709551616 := by have := hn.2; have := hn.1; omega
    rw [hs, hw', e, Qg6 N _ w hlt (by omega) (by omega)]
    simp only [Bool.false_eq_true, if_false, Option.bind_some, Int.toNat_natCast]
    rw [if_neg (by omega), if_neg (by omega)]
 ·rw [if_pos (show Vx v ≠ 0 from h1), if_pos (show Vx v ≠ 0 from h1)]
theorem Qvp (N : Nat) (s : List UInt8) (hl : s.length ≤ 8) : ∀ (k i : Nat), i ≤ s.length → s.length - i < k → Yy N s k (Q0o (s.take i) : Nat) (i : Int) = some ((Q0o s : Nat) : Int)
 | 0, i, h, h2 => by omega
 | k + 1, i, h, h2 => by
  simp only [Yy, Q6, Y6]
  by_cases hi : i < s.length
  ·rw [if_pos (by omega), Za, List.getElem?_eq_getElem hi]
   simp only [Option.bind_some]
   have h3 := Q2g (s.take i)
   have h4 : 256 ^ (s.take i).length ≤ 256 ^ 7 := Nat.pow_le_pow_right (by omega) (by rw [List.length_take]; omega)
   have h5 : (256 : Nat) ^ 7 = 72057594037927936 := rfl
   rw [Qip _ _ (by omega) s[i].toNat_lt, ← Qjj s i hi, Qh _ (by omega)]
   exact_mod_cast Qvp N s hl k (i + 1) (by omega) (by omega)
  ·rw [if_neg (by omega), List.take_of_length_le (by omega)]
theorem Qfz (N : Nat) (s : List UInt8) (hl : s.length ≤ 8) (hN : 10 < N) : Zd N s = some ((Q0o s : Nat) : Int) := by
 unfold Zd
 exact Qvp N s hl N 0 (by omega) (by omega)
end
end Go.Av
namespace Go.Av
noncomputable section
open Go.Proofs
set_option maxRecDepth 100000
theorem Qlr (N : Nat) (k : Int) (h : (Gj k).2 = false) : ∃ b, Qo N k = some b ∧ ¬ b < 0 ∧ k ≠ 10 := by
 by_cases hk : 1 ≤ k ∧ k ≤ 21
 ·rcases kinds hk with rfl | rfl | rfl | rfl | rfl | rfl | rfl | rfl | rfl | rfl | rfl | rfl | rfl | rfl | rfl | rfl | rfl | rfl | rfl | rfl | rfl <;>
   first | (exact absurd h (by decide)) | exact ⟨_, rfl, by decide, by decide⟩
 ·refine ⟨0, ?_, by decide, by omega⟩
  unfold Qo
  simp only [Q6, Wb]
  simp only [show ¬ k = 2 by omega, show ¬ k = 3 by omega, show ¬ k = 4 by omega, show ¬ k = 5 by omega, show ¬ k = 11 by omega, show ¬ k = 13 by omega, show ¬ k = 16 by omega, show ¬ k = 6 by omega, show ¬ k = 12 by omega, show ¬ k = 14 by omega, show ¬ k = 17 by omega, show ¬ k = 10 by omega, show ¬ k = 7 by omega, show ¬ k = 8 by omega, show ¬ k = 9 by omega, if_false]
theorem Qku (N : Nat) (k : Int) (h : (Gj k).2 = true) : (∃ b, Qo N k = some b ∧ b < 0) ∨ (∃ b, Qo N k = some b ∧ ¬ b < 0 ∧ (k = 10 ∨ k = 17)) := by
 by_cases hk : 1 ≤ k ∧ k ≤ 21
 ·rcases kinds hk with rfl | rfl | rfl | rfl | rfl | rfl | rfl | rfl | rfl | rfl | rfl | rfl | rfl | rfl | rfl | rfl | rfl | rfl | rfl | rfl | rfl <;>
   first | (exact absurd h (by decide)) | exact .inl ⟨_, rfl, by decide⟩ | exact .inr ⟨_, rfl, by decide, by decide⟩
 ·exfalso
  unfold Gj at h
  simp only [show ¬ k = 2 by omega, show ¬ k = 3 by omega, show ¬ k = 4 by omega, show ¬ k = 5 by omega, show ¬ k = 11 by omega, show ¬ k = 13 by omega, show ¬ k = 16 by omega, show ¬ k = 6 by omega, show ¬ k = 12 by omega, show ¬ k = 14 by omega, show ¬ k = 17 by omega, show ¬ k = 10 by omega, show ¬ k = 7 by omega, show ¬ k = 8 by omega, show ¬ k = 9 by omega, if_false, or_self] at h
  cases h
theorem Qsh (c : Qg) (n w : Nat) (hw : c.Width = w) (hh : w = 1 ∨ w = 2 ∨ w = 4 ∨ w = 8) (hn : n < 256 ^ w) (hs : (Gj c.Kind).2 = true) :
  (if decide (0 ≤ (IntKind.wrap .u64 (IntKind.wrap .i64 ((IntKind.wrap .i64 (8 * (w : Int))) - 1)))) = true then (if (n : Int) ≥ Q0d .u64 1 (IntKind.wrap .u64 (IntKind.wrap .i64 ((IntKind.wrap .i64 (8 * (w : Int))) - 1))) then
   some (IntKind.wrap .u64 ((IntKind.wrap .u64 ((n : Int) - (Q0d .u64 1 (IntKind.wrap .u64 (IntKind.wrap .i64 ((IntKind.wrap .i64 (8 * (w : Int))) - 1)))))) - (Q0d .u64 1 (IntKind.wrap .u64 (IntKind.wrap .i64 ((IntKind.wrap .i64 (8 * (w : Int))) - 1)))))) else some (n : Int)) else none) = some (Q0n c n) := by
 unfold Q0n
 simp only [hs, true_and, hw]
 rcases hh with rfl | rfl | rfl | rfl
 ·rw [if_pos (by decide), show Q0d .u64 1 (IntKind.wrap .u64 (IntKind.wrap .i64 ((IntKind.wrap .i64 (8 * ((1 : Nat) : Int))) - 1))) = 128 by decide]
  simp only [Q9u]
  simp at hn ⊢
  split <;> simp <;> omega
 ·rw [if_pos (by decide), show Q0d .u64 1 (IntKind.wrap .u64 (IntKind.wrap .i64 ((IntKind.wrap .i64 (8 * ((2 : Nat) : Int))) - 1))) = 32768 by decide]
  simp only [Q9u]
  simp at hn ⊢
  split <;> simp <;> omega
 ·rw [if_pos (by decide), show Q0d .u64 1 (IntKind.wrap .u64 (IntKind.wrap .i64 ((IntKind.wrap .i64 (8 * ((4 : Nat) : Int))) - 1))) = 2147483648 by decide]
  simp only [Q9u]
  simp at hn ⊢
  split <;> simp <;> omega
 ·rw [if_pos (by decide), show Q0d .u64 1 (IntKind.wrap .u64 (IntKind.wrap .i64 ((IntKind.wrap .i64 (8 * ((8 : Nat) : Int))) - 1))) = 9223372036854775808 by decide]
  simp only [Q9u]
  simp at hn ⊢
  intro; omega
theorem Qu0 (N : Nat) (c : Qg) (n w : Nat) (hw : c.Width = w) (hh : w = 1 ∨ w = 2 ∨ w = 4 ∨ w = 8) (hn : n < 256 ^ w) (h17 : c.Kind = 17 → w = 8) : Uh N (n : Int) c.Kind (w : Int) = some (Q0n c n) := by
 simp only [Uh, Q6, Y6, Wb, Qcc]
 cases hs : (Gj c.Kind).2 with
 | false =>
  obtain ⟨b, hb, hb0, h10⟩ := Qlr N c.Kind hs
  rw [hb]
  simp only [Option.bind_some]
  rw [if_neg hb0, if_neg h10]
  unfold Q0n
  rw [if_neg (by simp [hs])]
 | true =>
  rcases Qku N c.Kind hs with ⟨b, hb, hb0⟩ | ⟨b, hb, hb0, hk⟩
  ·rw [hb]
   simp only [Option.bind_some]
   rw [if_pos hb0]
   exact Qsh c n w hw hh hn hs
  ·rw [hb]
   simp only [Option.bind_some]
   rw [if_neg hb0]
   rcases hk with hk | hk
   ·rw [if_pos hk]
    exact Qsh c n w hw hh hn hs
   ·rw [if_neg (by omega)]
    have h8 := h17 hk
    subst h8
    unfold Q0n
    simp only [hs, true_and, hw]
    simp
theorem Qe5 (k : Int) (v : Q0) (n : Int) : (if k = 2 then some ((⟨0, 0, [], []⟩ : Q0), (0 : Int), (5 : Int)) else if k ≠ 0 then some (⟨0, 0, [], []⟩, 0, k) else some (v, n, 0)) = some (if k = 0 then (v, n, 0) else (Q2m, 0, if k = 2 then 5 else k)) := by
 by_cases h2 : k = 2
 ·subst h2; rfl
 ·rw [if_neg h2]
  by_cases h0 : k = 0
  ·rw [if_neg (show ¬ (k ≠ 0) by simp [h0]), if_pos h0]
  ·rw [if_pos (show k ≠ 0 from h0), if_neg h0, if_neg h2]; rfl
theorem Qix (N : Nat) (code : Int) (s : List UInt8) (hs : s.length < 4611686018427387000) (h : s.length < N) (hN : 50 < N) : Js N code s = some (Qco code s) := by
 have hck : ∀ v : Q0, okU v.N' → v.Text.length ≤ s.length → Qy N v = some (Vx v) := fun v h1 h2 => Q6l N v h1 (by omega) (by omega)
 simp only [Js, Q4b N code hN, Option.bind_some, Q6, Y6, Q2c, Wb, Wy, Qco]
 cases hb : ofB code with
 | false => simp only [Bool.not_false, if_true, true_or]; rfl
 | true =>
  have hw := Qej code hb
  have ht8 := Z00 hb
  have hcd := hw.code
  simp only [Bool.not_true, Bool.false_eq_true, if_false, Bool.true_eq_false, false_or]
  cases hi : (ofS code).Items with
  | true => rfl
  | false =>
   simp only [Bool.false_eq_true, if_false]
   rw [← hcd]
   rw [hcd]
   generalize hc0 : ofS code = c at *
   by_cases hl : (s.length : Int) < c.Width
   ·rw [if_pos hl, if_pos hl]; rfl
   rw [if_neg hl, if_neg hl]
   cases hw.shape hi with
   | sized w hsz hw' h12 hk hc =>
    simp only [hsz, hw', if_true, Int.toNat_natCast]
    have hlw : w ≤ s.length := by omega
    rw [if_pos (by simp), if_pos (by simp [Nat.ble_eq]; omega), List.drop_zero, Qfz N _ (by rw [List.length_take]; omega) (by omega)]
    simp only [Option.bind_some]
    have hlt := Q2g (s.take w)
    have h4 : 256 ^ (s.take w).length ≤ 256 ^ 4 := Nat.pow_le_pow_right (by omega) (by rw [List.length_take]; omega)
    have h5 : (256 : Nat) ^ 4 = 4294967296 := rfl
    generalize hm : Q0o (s.take w) = m at *
    have e1 : IntKind.u64.wrap (IntKind.i64.wrap ((s.length : Int) - (w : Int))) = ((s.length - w : Nat) : Int) := by
     rw [Qh _ (by omega), show ((s.length : Int) - (w : Int)) = ((s.length - w : Nat) : Int) by omega, Q8x _ (by omega)]
    rw [e1]
    by_cases h6 : s.length - w < m
    ·rw [if_pos (by omega), if_pos h6]; rfl
    ·rw [if_neg (by omega), if_neg h6]
     have e2 : IntKind.i64.wrap ((w : Int) + IntKind.i64.wrap (m : Int)) = ((w + m : Nat) : Int) := by
      rw [Qh (m : Int) (by omega), Qh _ (by omega)]; push_cast; rfl
     rw [e2]
     simp only [Int.toNat_natCast]
     rw [if_pos (by simp; omega), if_pos (by simp [Nat.ble_eq]; omega)]
     rw [show (s.take (w + m)).drop w = (s.drop w).take m by rw [List.drop_take]; congr 1; omega]
     rw [hck _ Qud (by simp only [List.length_take, List.length_drop]; omega)]
     simp only [Option.bind_some]
     rw [Qe5]
     unfold Qpe
     rw [show ((w + m : Nat) : Int) = (w : Int) + (m : Int) by push_cast; rfl]
   | wide hsz hw' hk hc =>
    simp only [hsz, hw', Bool.false_eq_true, if_false, if_true]
    rw [if_pos (by simp [Nat.ble_eq]; omega), List.drop_zero, hck _ Qud (by simp only [List.length_take]; omega)]
    simp only [Option.bind_some]
    rw [Qe5]
    rfl
   | num w hsz hw' hh ht hc hbb =>
    simp only [hsz, hw', Bool.false_eq_true, if_false, Int.toNat_natCast]
    rw [if_neg (show ¬ ((w : Int) = 16) by omega), if_neg (show ¬ ((w : Int) = 16) by omega)]
    by_cases h65 : code = 65
    ·obtain ⟨rfl, hk2⟩ := hc (by rw [hcd]; exact h65)
     rw [if_pos h65, if_pos (show c.Code = 65 by rw [hcd]; exact h65), hck _ Z0c (by simp)]
     simp only [Option.bind_some]
     rw [Qe5]
     rfl
    ·rw [if_neg h65, if_neg (show ¬ c.Code = 65 by rw [hcd]; exact h65)]
     have hlw : w ≤ s.length := by omega
     rcases hh with rfl | hh
     ·rw [if_neg (by omega), hck _ Qud (by simp)]
      simp only [Option.bind_some]
      have e0 : Q0n c (Q0o (s.take 0) : Nat) = 0 := by
       unfold Q0n
       rw [if_neg (by omega)]; rfl
      rw [Qe5, e0]
      rfl
     ·have hlt := Q2g (s.take w)
      rw [List.length_take, Nat.min_eq_left hlw] at hlt
      rw [if_pos (by omega), if_pos (by simp), if_pos (by simp [Nat.ble_eq]; omega), List.drop_zero, Qfz N _ (by rw [List.length_take]; omega) (by omega)]
      simp only [Option.bind_some]
      rw [Qu0 N c _ w hw' hh hlt (fun hk => by have := ht8 hk; omega)]
      simp only [Option.bind_some]
      rw [hck _ (Qda hw' hh hlt).1 (by simp)]
      simp only [Option.bind_some]
      rw [Qe5]
      rfl
end
end Go.Av
namespace Go.Av
noncomputable section
open Go.Proofs
set_option maxRecDepth 100000
theorem Qvk {P : Q0 → Prop} (h : ∀ v, (∀ x ∈ v.Items, P x) → P v) : ∀ (n : Nat) (v : Q0), v.sz ≤ n → P v
 | 0, v, hn => by have := v.sz_eq; omega
 | n + 1, v, hn => h v (fun x hx => Qvk h n x (by have := v.sz_eq; have := Q0.szs_mem _ x hx; omega))
theorem Q0.ind {P : Q0 → Prop} (h : ∀ v, (∀ x ∈ v.Items, P x) → P v) (v : Q0) : P v := Qvk h v.sz v (Nat.le_refl _)
theorem Qme {R : Q0 → Q0 → Option Bool} {N : Nat} {a b : Q0} (hlen : a.Items.length = b.Items.length) (hb : a.Items.length < 4611686018427387904)
  (hR : ∀ y ∈ a.Items, ∀ z, R y z = some (decide (y = z))) : ∀ (n i : Nat), i ≤ a.Items.length → a.Items.length - i < n →
  Ux R N a b n (i : Int) = some (decide (a.Items.drop i = b.Items.drop i))
 | 0, i, _, h => by omega
 | n + 1, i, h1, h2 => by
  simp only [Ux, Q6, Y6, Qn]
  by_cases hi : i < a.Items.length
  ·rw [if_pos (by omega), Za, Za, List.getElem?_eq_getElem hi, List.getElem?_eq_getElem (show i < b.Items.length by omega)]
   simp only [Option.bind_some, hR _ (List.getElem_mem hi)]
   rw [Qh _ (by omega)]
   have ih := Qme (N := N) hlen hb hR n (i + 1) (by omega) (by omega)
   rw [List.drop_eq_getElem_cons hi, List.drop_eq_getElem_cons (show i < b.Items.length by omega)]
   by_cases he : a.Items[i] = b.Items[i]
   ·rw [← he]; simp only [decide_true, Bool.not_true, Bool.false_eq_true, if_false, List.cons.injEq, true_and]
    exact_mod_cast ih
   ·have hne : ¬ (a.Items[i] :: List.drop (i + 1) a.Items = b.Items[i] :: List.drop (i + 1) b.Items) := fun e => he (List.cons.inj e).1
    simp only [he, decide_false, Bool.not_false, if_true]
    rw [decide_eq_false hne]
  ·rw [if_neg (by omega), List.drop_of_length_le (by omega), List.drop_of_length_le (by omega)]
   simp
theorem Qr4 : ∀ (N : Nat) (a b : Q0), a.sz < N → a.sz < 1000000000 → Jr N a b = some (decide (a = b))
 | 0, a, b, h, _ => by have := a.sz_eq; omega
 | N + 1, a, b, h, h2 => by
  have hs := a.sz_eq
  have hl := Q0.szs_len a.Items
  simp only [Jr, Q29, Q6, Wy, G4, Qn]
  by_cases e1 : a.Kind = b.Kind
  ·by_cases e2 : a.N' = b.N'
   ·by_cases e3 : a.Text = b.Text
    ·by_cases e4 : a.Items.length = b.Items.length
     ·rw [if_neg (by simp [e1]), if_neg (by simp [e2]), if_neg (by simp [e3]), if_neg (by simp [e4])]
      have := Qme (N := N) (R := Jr N) e4 (by omega) (fun y hy z => Qr4 N y z (by have := Q0.szs_mem _ y hy; omega) (by have := Q0.szs_mem _ y hy; omega)) N 0 (by omega) (by omega)
      rw [show (0 : Int) = ((0 : Nat) : Int) from rfl, this]
      cases a; cases b; simp_all
     ·rw [if_neg (by simp [e1]), if_neg (by simp [e2]), if_neg (by simp [e3]), if_pos (by omega)]
      have : a ≠ b := fun e => e4 (by rw [e])
      simp [this]
    ·rw [if_neg (by simp [e1]), if_neg (by simp [e2]), if_pos (by simpa using e3)]
     have : a ≠ b := fun e => e3 (by rw [e])
     simp [this]
   ·rw [if_neg (by simp [e1]), if_pos (by simpa using e2)]
    have : a ≠ b := fun e => e2 (by rw [e])
    simp [this]
  ·rw [if_pos (by simpa using e1)]
   have : a ≠ b := fun e => e1 (by rw [e])
   simp [this]
end
end Go.Av
namespace Go.Av
noncomputable section
open Go.Proofs
set_option maxRecDepth 100000
def nnS (v : Q0) : Bool := (Zo 0 v).getD false
theorem Qx4 (N : Nat) (v : Q0) : Zo N v = some (nnS v) := by
 have h : Zo N v = Zo 0 v := rfl
 rw [h]
 unfold nnS Zo
 simp only [Q6]
 repeat' split
 all_goals rfl
mutual
def Q4f : Q0 → Q0 → Bool
 | .mk k n t is, b => decide (k = b.Kind) && (decide (t = b.Text) && (decide (is.length = b.Items.length) && ((decide (n = b.N') || (nnS ⟨k, n, t, is⟩ && nnS b)) && Q3n is b.Items)))
def Q3n : List Q0 → List Q0 → Bool
 | [], _ => true
 | x :: l, y :: m => Q4f x y && Q3n l m
 | _ :: _, [] => false
end
theorem Qd3 (a b : Q0) : Q4f a b = (decide (a.Kind = b.Kind) && (decide (a.Text = b.Text) && (decide (a.Items.length = b.Items.length) && ((decide (a.N' = b.N') || (nnS a && nnS b)) && Q3n a.Items b.Items)))) := by
 cases a; simp only [Q4f]
theorem Qnq {R : Q0 → Q0 → Option Bool} {N : Nat} {a b : Q0} (hlen : a.Items.length = b.Items.length) (hb : a.Items.length < 4611686018427387904)
  (hR : ∀ y ∈ a.Items, ∀ z, R y z = some (Q4f y z)) : ∀ (n i : Nat), i ≤ a.Items.length → a.Items.length - i < n →
  U4 R N a b n (i : Int) = some (Q3n (a.Items.drop i) (b.Items.drop i)) ∧ Vz R N a b n (i : Int) = some (Q3n (a.Items.drop i) (b.Items.drop i))
 | 0, i, _, h => by omega
 | n + 1, i, h1, h2 => by
  simp only [U4, Vz, Q6, Y6, Qn]
  by_cases hi : i < a.Items.length
  ·rw [if_pos (by omega), if_pos (by omega), Za, Za, List.getElem?_eq_getElem hi, List.getElem?_eq_getElem (show i < b.Items.length by omega)]
   simp only [Option.bind_some, hR _ (List.getElem_mem hi)]
   rw [Qh _ (by omega)]
   obtain ⟨ih1, ih2⟩ := Qnq (N := N) hlen hb hR n (i + 1) (by omega) (by omega)
   rw [List.drop_eq_getElem_cons hi, List.drop_eq_getElem_cons (show i < b.Items.length by omega), Q3n]
   cases Q4f a.Items[i] b.Items[i] with
   | true =>
    simp only [Bool.not_true, Bool.false_eq_true, if_false, Bool.true_and]
    exact ⟨by exact_mod_cast ih1, by exact_mod_cast ih2⟩
   | false => simp
  ·rw [if_neg (by omega), if_neg (by omega), List.drop_of_length_le (by omega)]
   simp [Q3n]
theorem Qmg : ∀ (N : Nat) (a b : Q0), a.sz < N → a.sz < 1000000000 → J0 N a b = some (Q4f a b)
 | 0, a, b, h, _ => by have := a.sz_eq; omega
 | N + 1, a, b, h, h2 => by
  have hs := a.sz_eq
  have hl := Q0.szs_len a.Items
  rw [Qd3]
  simp only [J0, Q19, Q6, Wy, G4, Qn, Qx4, Option.bind_some]
  by_cases e1 : a.Kind = b.Kind
  ·by_cases e3 : a.Text = b.Text
   ·by_cases e4 : a.Items.length = b.Items.length
    ·rw [if_neg (by simp [e1]), if_neg (by simp [e3]), if_neg (by simp [e4])]
     obtain ⟨i1, i2⟩ := Qnq (N := N) (R := J0 N) e4 (by omega) (fun y hy z => Qmg N y z (by have := Q0.szs_mem _ y hy; omega) (by have := Q0.szs_mem _ y hy; omega)) N 0 (by omega) (by omega)
     rw [show ((0 : Nat) : Int) = 0 from rfl] at i1 i2
     rw [i1, i2, List.drop_zero, List.drop_zero]
     simp only [e1, e3, e4, decide_true, Bool.true_and]
     by_cases e2 : a.N' = b.N'
     ·simp [e2]
     ·simp only [e2, ne_eq, not_false_eq_true, if_true, decide_false, Bool.false_or]
      cases nnS a <;> cases nnS b <;> simp
    ·rw [if_neg (by simp [e1]), if_neg (by simp [e3]), if_pos (by omega)]
     simp [e4]
   ·rw [if_neg (by simp [e1]), if_pos (by simpa using e3)]
    simp [e3]
  ·rw [if_pos (by simpa using e1)]
   simp [e1]
def AL (v : Q0) (i j : Nat) : Prop := ∃ x y, v.Items[i]? = some x ∧ v.Items[j]? = some y ∧ Q4f x y = true
open Classical in
noncomputable def Q3d (v : Q0) : Int := if v.Kind ≠ 23 then 0 else if ∃ i j, 2 ≤ i ∧ i % 2 = 0 ∧ i < v.Items.length ∧ j < i ∧ j % 2 = 0 ∧ AL v i j then 16 else 0
open Classical in
theorem Qsc {N : Nat} {v : Q0} (hb : v.sz < 1000000000) (hN : v.sz < N) {k0 : Int → Option Int} {i : Nat} (hi : i < v.Items.length) (i2 : i % 2 = 0) : ∀ (n k : Nat), i - k < n → k % 2 = 0 → k ≤ i →
  Uu N k0 v (i : Int) n (k : Int) = if ∃ j, k ≤ j ∧ j < i ∧ j % 2 = 0 ∧ AL v i j then some 16 else k0 ((i + 2 : Nat) : Int)
 | 0, k, h, _, _ => by omega
 | n + 1, k, h, hk, hki => by
  have hs := v.sz_eq
  have hl := Q0.szs_len v.Items
  simp only [Uu, Q6, Y6, Za]
  by_cases hlt : k < i
  ·rw [if_pos (by omega), List.getElem?_eq_getElem hi, List.getElem?_eq_getElem (show k < v.Items.length by omega)]
   simp only [Option.bind_some]
   have hsz := Q0.szs_mem _ _ (List.getElem_mem hi)
   rw [Qmg N _ _ (by omega) (by omega)]
   simp only [Option.bind_some]
   cases hal : Q4f v.Items[i] v.Items[k] with
   | true =>
    rw [if_pos rfl, if_pos ⟨k, Nat.le_refl _, hlt, hk, _, _, List.getElem?_eq_getElem hi, List.getElem?_eq_getElem (by omega), hal⟩]
   | false =>
    rw [if_neg (by simp), Qh _ (by omega)]
    have := Qsc (k0 := k0) hb hN hi i2 n (k + 2) (by omega) (by omega) (by omega)
    rw [show ((k : Int) + 2) = ((k + 2 : Nat) : Int) by push_cast; rfl, this]
    by_cases hx : ∃ j, k + 2 ≤ j ∧ j < i ∧ j % 2 = 0 ∧ AL v i j
    ·rw [if_pos hx]
     obtain ⟨j, j1, j2, j3, j4⟩ := hx
     rw [if_pos ⟨j, by omega, j2, j3, j4⟩]
    ·rw [if_neg hx, if_neg]
     rintro ⟨j, j1, j2, j3, j4⟩
     by_cases hjk : j = k
     ·subst hjk
      obtain ⟨x, y, x1, y1, z1⟩ := j4
      rw [List.getElem?_eq_getElem hi] at x1
      rw [List.getElem?_eq_getElem (by omega)] at y1
      cases x1; cases y1
      rw [hal] at z1; cases z1
     ·exact hx ⟨j, by omega, j2, j3, j4⟩
  ·rw [if_neg (by omega), Qh _ (by omega), if_neg (by rintro ⟨j, j1, j2, _⟩; omega)]
   push_cast; rfl
open Classical in
theorem Qpt {N : Nat} {v : Q0} (hb : v.sz < 1000000000) (hN : v.sz < N) : ∀ (n i : Nat), v.Items.length - i < n → i % 2 = 0 → i ≤ v.Items.length + 2 →
  Wh N v n (i : Int) = some (if ∃ i' j, i ≤ i' ∧ i' % 2 = 0 ∧ i' < v.Items.length ∧ j < i' ∧ j % 2 = 0 ∧ AL v i' j then 16 else 0)
 | 0, i, h, _, _ => by omega
 | n + 1, i, h, hi, hle => by
  have hs := v.sz_eq
  have hl := Q0.szs_len v.Items
  simp only [Wh, Q6, Y6, Qn]
  by_cases hlt : i < v.Items.length
  ·rw [if_pos (by omega)]
   have h1 := Qsc (N := N) (k0 := Wh N v n) hb hN hlt hi N 0 (by omega) (by omega) (by omega)
   rw [show ((0 : Nat) : Int) = 0 from rfl] at h1
   rw [h1]
   by_cases hx : ∃ j, 0 ≤ j ∧ j < i ∧ j % 2 = 0 ∧ AL v i j
   ·rw [if_pos hx]
    obtain ⟨j, _, j2, j3, j4⟩ := hx
    rw [if_pos ⟨i, j, Nat.le_refl _, hi, hlt, j2, j3, j4⟩]
   ·rw [if_neg hx, Qpt hb hN n (i + 2) (by omega) (by omega) (by omega)]
    by_cases hy : ∃ i' j, i + 2 ≤ i' ∧ i' % 2 = 0 ∧ i' < v.Items.length ∧ j < i' ∧ j % 2 = 0 ∧ AL v i' j
    ·rw [if_pos hy]
     obtain ⟨i', j, a1, a2, a3⟩ := hy
     rw [if_pos ⟨i', j, by omega, a2, a3⟩]
    ·rw [if_neg hy, if_neg]
     rintro ⟨i', j, a1, a2, a3, a4, a5, a6⟩
     by_cases he : i' = i
     ·subst he; exact hx ⟨j, by omega, a4, a5, a6⟩
     ·exact hy ⟨i', j, by omega, a2, a3, a4, a5, a6⟩
  ·rw [if_neg (by omega), if_neg]
   rintro ⟨i', j, a1, a2, a3, _⟩; omega
theorem Qi0 (N : Nat) (v : Q0) (hb : v.sz < 1000000000) (hN : v.sz + 5 < N) : Ve N v = some (Q3d v) := by
 have hs := v.sz_eq
 have hl := Q0.szs_len v.Items
 simp only [Ve, Q6, Wy, Q3d]
 by_cases h : v.Kind ≠ 23
 ·rw [if_pos h, if_pos h]
 ·rw [if_neg h, if_neg h]
  exact Qpt hb (by omega) N 2 (by omega) (by omega) (by omega)
def Q98 (v : Q0) : Option Bool :=
 cond (Q3q .neq v.Text [])
 (some false)
 (cond (Q5 .eql v.Kind 24)
 (cond (Q5 .geq v.N' 1)
 (some (Q5 .leq v.N' 24))
 (some false))
 (cond (Q5 .neq v.N' 0)
 (some false)
 (cond (Q5 .eql v.Kind 25)
 (some (Q5 .eql ((Q0.rows v.Items).length : Int) 2))
 (cond (Q5 .eql v.Kind 23)
 (some (Q5 .eql ((((Q0.rows v.Items).length : Int) : Int).tmod 2) 0))
 (some true)))))
def Q1e (v : Q0) : Bool := (Q98 v).getD false
theorem Qff (v : Q0) : Q98 v = some (Q1e v) := by
 unfold Q1e Q98
 simp only [Q6]
 repeat' split
 all_goals rfl
theorem Qqg (N : Nat) (v : Q0) : Gh N v = some (Q1e v) := by
 rw [← Qff v]
 unfold Q98 Gh
 simp only [Q6]
 repeat' split
 all_goals rfl
mutual
noncomputable def Xv : Q0 → Int → Int
 | .mk k n t is, m => if k < 1 then 8 else if 25 < k then 8 else if k ≤ 21 then Vx ⟨k, n, t, is⟩ else if m = 0 then 14 else if Q1e ⟨k, n, t, is⟩ = false then 2 else if 1000 < is.length then 4 else Q1d is k n (m - 1) (Q3d ⟨k, n, t, is⟩)
noncomputable def Q1d : List Q0 → Int → Int → Int → Int → Int
 | [], _, _, _, e => e
 | x :: l, k, n, m, e => if k = 24 ∧ IntKind.u64.wrap x.Kind ≠ n then 8 else if Xv x m ≠ 0 then Xv x m else Q1d l k n m e
end
theorem Q40 (v : Q0) (m : Int) : Xv v m = if v.Kind < 1 then 8 else if 25 < v.Kind then 8 else if v.Kind ≤ 21 then Vx v else if m = 0 then 14 else if Q1e v = false then 2 else if 1000 < v.Items.length then 4 else Q1d v.Items v.Kind v.N' (m - 1) (Q3d v) := by
 cases v; simp only [Xv]
inductive Fine : Q0 → Prop
 | mk (v : Q0) (hn : okU v.N') (ht : v.Text.length ≤ 300000) (hi : ∀ x ∈ v.Items, Fine x) : Fine v
theorem Fine.num {v : Q0} (h : Fine v) : okU v.N' := by cases h; assumption
theorem Fine.text {v : Q0} (h : Fine v) : v.Text.length ≤ 300000 := by cases h; assumption
theorem Fine.items {v : Q0} (h : Fine v) : ∀ x ∈ v.Items, Fine x := by cases h; assumption
theorem Qhh : ∀ (l : List Q0), Q0.txts l → ∀ x ∈ l, x.txt
 | v :: l, h, x, hx => by
  simp only [Q0.txts] at h
  rcases List.mem_cons.1 hx with rfl | hx
  ·exact h.1
  ·exact Qhh l h.2 x hx
theorem Qxi (v : Q0) (hv : OkV v) (ht : v.txt) : Fine v := by
 induction v using Q0.ind with
 | h v ih =>
  rw [Q0.txt_eq] at ht
  exact .mk v hv.num (by omega) (fun x hx => ih x hx (hv.items x hx) (Qhh _ ht.2 x hx))
theorem Qic {R : Q0 → Int → Option Int} {N : Nat} {v : Q0} {m : Int} (hb : v.sz < 1000000000) (hN : v.sz + 5 < N) (hm : 1 ≤ m ∧ m ≤ 32) (hR : ∀ y ∈ v.Items, R y (m - 1) = some (Xv y (m - 1))) : ∀ (n i : Nat), i ≤ v.Items.length → v.Items.length - i < n →
  Xo R N v m n (i : Int) = some (Q1d (v.Items.drop i) v.Kind v.N' (m - 1) (Q3d v))
 | 0, i, _, h => by omega
 | n + 1, i, hi, hn => by
  have hs := v.sz_eq
  have hl := Q0.szs_len v.Items
  simp only [Xo, Q6, Y6, Wb, Wy, Qn, Za, Qh (m - 1) (show _ by omega), Qi0 N v hb hN, Option.bind_some]
  by_cases h : i < v.Items.length
  ·rw [if_pos (by omega), List.getElem?_eq_getElem h, List.drop_eq_getElem_cons h, Q1d]
   simp only [Option.bind_some, hR _ (List.getElem_mem h)]
   rw [Qh _ (by omega)]
   have ih := Qic (N := N) hb hN hm hR n (i + 1) (by omega) (by omega)
   rw [show ((i : Int) + 1) = ((i + 1 : Nat) : Int) by push_cast; rfl, ih]
   by_cases h24 : v.Kind = 24
   ·rw [if_pos h24]
    by_cases hw : IntKind.u64.wrap v.Items[i].Kind ≠ v.N'
    ·rw [if_pos hw, if_pos ⟨h24, hw⟩]
    ·rw [if_neg hw, if_neg (show ¬ (v.Kind = 24 ∧ IntKind.u64.wrap v.Items[i].Kind ≠ v.N') from fun hh => hw hh.2)]
     by_cases hc : Xv v.Items[i] (m - 1) ≠ 0
     ·rw [if_pos hc, if_pos hc]
     ·rw [if_neg hc, if_neg hc]
   ·rw [if_neg h24, if_neg (show ¬ (v.Kind = 24 ∧ IntKind.u64.wrap v.Items[i].Kind ≠ v.N') from fun hh => h24 hh.1)]
    by_cases hc : Xv v.Items[i] (m - 1) ≠ 0
    ·rw [if_pos hc, if_pos hc]
    ·rw [if_neg hc, if_neg hc]
  ·rw [if_neg (by omega), List.drop_of_length_le (by omega), Q1d]
theorem Qjc : ∀ (N : Nat) (v : Q0) (m : Int), Fine v → v.sz + 300050 < N → v.sz < 1000000000 → 0 ≤ m → m ≤ 32 → Vh N v m = some (Xv v m)
 | 0, v, m, _, h, _, _, _ => by omega
 | N + 1, v, m, hv, h, h2, m0, m1 => by
  have hs := v.sz_eq
  have hl := Q0.szs_len v.Items
  rw [Q40]
  have ht := hv.text
  simp only [Vh, Q08, Q6, Y6, Q2c, Q75, Wb, Qn, Q6p N v hv.num (show v.Text.length < N by omega) (by omega), Qqg, Option.bind_some]
  split
  ·rfl
  rename_i h1
  by_cases h25 : v.Kind > 25
  ·rw [if_pos h25, if_pos (show 25 < v.Kind from h25)]
  rw [if_neg h25, if_neg (show ¬ 25 < v.Kind from h25)]
  split
  ·rfl
  by_cases hm0 : m = 0
  ·rw [if_pos hm0, if_pos hm0]
  rw [if_neg hm0, if_neg hm0]
  cases Q1e v with
  | false => rfl
  | true =>
   simp only [Bool.not_true, Bool.false_eq_true, if_false, Bool.true_eq_false]
   by_cases hlen : 1000 < v.Items.length
   ·rw [if_pos (by omega), if_pos hlen]
   rw [if_neg (by omega), if_neg hlen]
   have := Qic (R := Vh N) (N := N) (v := v) (m := m) h2 (by omega) ⟨by omega, m1⟩ (fun y hy => Qjc N y (m - 1) (hv.items y hy) (by have := Q0.szs_mem _ y hy; omega) (by have := Q0.szs_mem _ y hy; omega) (by omega) (by omega)) N 0 (by omega) (by omega)
   exact this
def Q7t (m : Int) : Bool := decide (0 ≤ m ∧ m ≤ 32)
theorem Qcg (N : Nat) (m : Int) : W9 N m = some (Q7t m) := by
 unfold W9 Q7t
 simp only [Q6, Qcc]
 by_cases h : 0 ≤ m
 ·rw [if_pos h]
  show some (decide (m ≤ 32)) = _
  rw [Option.some.injEq, decide_eq_decide]; omega
 ·rw [if_neg h, decide_eq_false (by omega)]
noncomputable def Vf (v : Q0) (m : Int) : Int := if Q7t m = false then 2 else Xv v m
theorem Qdq (N : Nat) (v : Q0) (m : Int) (hv : Fine v) (h : v.sz + 300050 < N) (h2 : v.sz < 1000000000) : Uz N v m = some (Vf v m) := by
 simp only [Uz, Qcg, Option.bind_some, Q6, Vf]
 cases hr : Q7t m with
 | false => rfl
 | true =>
  have : 0 ≤ m ∧ m ≤ 32 := by simpa [Q7t] using hr
  simp only [Bool.not_true, Bool.false_eq_true, if_false, Bool.true_eq_false]
  rw [Qjc N v m hv h h2 this.1 this.2]; rfl
end
end Go.Av
namespace Go.Av
noncomputable section
open Go.Proofs
set_option maxRecDepth 100000
end
end Go.Av
namespace Go.Av
noncomputable section
open Go.Proofs
set_option maxRecDepth 100000
abbrev Rd := Q0 × Int × Int
def Jl (rd : List UInt8 → Rd) : Nat → List UInt8 → List Q0 → (List Q0 × List UInt8) × Int
 | 0, s, acc => ((acc, s), 0)
 | c + 1, s, acc => if (rd s).2.2 ≠ 0 then (([], []), (rd s).2.2) else Jl rd c (s.drop (rd s).2.1.toNat) (acc ++ [(rd s).1])
def Zf (data : Int → List UInt8 → Rd) : List UInt8 → Rd
 | [] => (Q2m, 0, 3)
 | b :: t => if (data (b.toNat : Int) t).2.2 ≠ 0 then (Q2m, 0, (data (b.toNat : Int) t).2.2) else ((data (b.toNat : Int) t).1, (data (b.toNat : Int) t).2.1 + 1, 0)
def Qof (rd : List UInt8 → Rd) (s : List UInt8) : Rd := if (Jl rd 2 s []).2 ≠ 0 then (Q2m, 0, (Jl rd 2 s []).2) else (⟨25, 0, [], (Jl rd 2 s []).1.1⟩, ((s.length - (Jl rd 2 s []).1.2.length : Nat) : Int), 0)
noncomputable def Qev (k num : Int) (q : (List Q0 × List UInt8) × Int) (tot : Nat) : Rd := if q.2 ≠ 0 then (Q2m, 0, if q.2 = 3 then 5 else q.2) else if q.1.2 ≠ [] then (Q2m, 0, 5)
 else if Q3d ⟨k, num, [], q.1.1⟩ ≠ 0 then (Q2m, 0, Q3d ⟨k, num, [], q.1.1⟩) else (⟨k, num, [], q.1.1⟩, (tot : Int), 0)
theorem Qcm {k num e : Int} {tot : Nat} {x : List Q0 × List UInt8} (he : e ≠ 0) : Qev k num (x, e) tot = (Q2m, 0, if e = 3 then 5 else e) := by
 unfold Qev
 rw [if_pos (show (x, e).2 ≠ 0 from he)]
noncomputable def Qzm (data : Int → List UInt8 → Rd) (cnt tot : Nat) (k : Int) : List UInt8 → Rd
 | [] => (Q2m, 0, 5)
 | b :: t => if ofB (b.toNat : Int) = false ∨ b.toNat = 0 then (Q2m, 0, 8) else Qev k (ofS (b.toNat : Int)).Kind (Jl (data (b.toNat : Int)) cnt t []) tot
noncomputable def Qua (data : Int → List UInt8 → Rd) (c : Qg) (w : Nat) (body : List UInt8) (tot : Nat) : Rd :=
 if body.length < w then (Q2m, 0, 5)
 else if 1000 < Q0o (body.take w) then (Q2m, 0, 4)
 else if c.Kind = 23 ∧ Q0o (body.take w) % 2 ≠ 0 then (Q2m, 0, 5)
 else if c.Kind = 24 then Qzm data (Q0o (body.take w)) tot c.Kind (body.drop w)
 else Qev c.Kind 0 (Jl (Zf data) (Q0o (body.take w)) (body.drop w) []) tot
noncomputable def Q9j (data : Int → List UInt8 → Rd) (c : Qg) (s : List UInt8) : Rd :=
 if s.length < c.Width.toNat then (Q2m, 0, 3)
 else if s.length - c.Width.toNat < Q0o (s.take c.Width.toNat) then (Q2m, 0, 3)
 else Qua data c c.Width.toNat ((s.drop c.Width.toNat).take (Q0o (s.take c.Width.toNat))) (c.Width.toNat + Q0o (s.take c.Width.toNat))
noncomputable def X7 : Nat → Int → List UInt8 → Rd
 | 0, code, s => if ofB code = false then (Q2m, 0, 8) else if (ofS code).Items = false then Qco code s else (Q2m, 0, 14)
 | m + 1, code, s => if ofB code = false then (Q2m, 0, 8) else if (ofS code).Items = false then Qco code s
  else if (ofS code).Kind = 25 then Qof (Zf (X7 m)) s else if (ofS code).Sized = false then (⟨(ofS code).Kind, 0, [], []⟩, 0, 0) else Q9j (X7 m) (ofS code) s
def Qt1 (rd : List UInt8 → Rd) : Prop := ∀ s, s.length ≤ 600000 → (rd s).2.2 = 0 → 0 ≤ (rd s).2.1 ∧ (rd s).2.1 ≤ s.length ∧ (rd s).1.sz ≤ 1 + 1000 * (rd s).2.1.toNat
theorem Qo3 (b : UInt8) : IntKind.i64.wrap ((b.toNat : Nat) : Int) = ((b.toNat : Nat) : Int) := by
 have h : b.toNat < 256 := b.toNat_lt
 exact Qh _ (by omega)
theorem Q9n {text : List UInt8} {at' : Nat} (_h : at' ≤ text.length) (k : Nat) : (text.drop at').drop k = text.drop (at' + k) := by rw [List.drop_drop]
theorem Qh0 (N : Nat) (s : List UInt8) (i : Nat) (e : Int) (hi : i ≤ s.length) : Z4 N ⟨s, i, e⟩ = some (s.drop i, ⟨s, i, e⟩) := by
 simp only [Z4, Q6]
 rw [if_pos (by simp), if_pos (by simp [Nat.ble_eq]; exact hi)]
 simp
theorem Qzx (i : Nat) (h : i < 1000000000) : IntKind.u64.wrap ((i : Int) + 1) = ((i + 1 : Nat) : Int) := by
 rw [show ((i : Int) + 1) = ((i + 1 : Nat) : Int) by push_cast; rfl]; exact U5 _ (by omega)
theorem Qe7 {R : List UInt8 → Int → Option Rd} {N : Nat} {c : Qg} {most : Int} {v9 : (List UInt8) × Q4} {v11 : Int × Q4} {rd : List UInt8 → Rd} {text : List UInt8} {cnt tot : Nat}
  (hm : 1 ≤ most ∧ most ≤ 32) (ht : text.length ≤ 600000) (hc : cnt ≤ 1000) (h11 : v11.1 = (cnt : Int)) (h9 : v9.2.at' = (tot : Int)) (hN : 700000000 < N) (hR : ∀ s, s.length ≤ text.length → R s (most - 1) = some (rd s)) (hg : Qt1 rd) :
  ∀ (n i at' : Nat) (l : List Q0), i ≤ cnt → cnt - i < n → at' ≤ text.length → l.length = i → Q0.szs l ≤ i + 1000 * at' →
  Ww R N c most v9 v11 n (i : Int) text (at' : Int) 0 l = some (Qev c.Kind 0 (Jl rd (cnt - i) (text.drop at') l) tot)
 | 0, i, at', l, _, h, _, _, _ => by omega
 | n + 1, i, at', l, hi, hn, ha, hl, hz => by
  simp only [Ww, Q6, Y6, Wb, Wy, h11, Qh0 N text at' 0 ha, Option.bind_some, Qh (most - 1) (show _ by omega), hR (text.drop at') (by rw [List.length_drop]; omega)]
  by_cases hic : i < cnt
  ·rw [if_pos (by omega)]
   obtain ⟨k, hk⟩ : ∃ k, cnt - i = k + 1 := ⟨cnt - i - 1, by omega⟩
   rw [hk, Jl]
   have hgd := hg (text.drop at') (by rw [List.length_drop]; omega)
   generalize hr : rd (text.drop at') = r at hgd ⊢
   obtain ⟨x, m, e⟩ := r
   simp only [] at hgd ⊢
   by_cases he : e = 0
   ·subst he
    obtain ⟨g1, g2, g3⟩ := hgd rfl
    rw [List.length_drop] at g2
    obtain ⟨mm, rfl⟩ := Int.eq_ofNat_of_zero_le g1
    rw [if_pos rfl, Q69 N text at' mm (by unfold Qdr; omega) ha (by omega), if_pos (by omega)]
    simp only [Option.bind_some]
    rw [if_neg (by decide), if_neg (by simp), if_pos (by simp [Nat.ble_eq]; omega), Qzx i (by omega), if_neg (by simp)]
    have ih := Qe7 (c := c) (v9 := v9) (tot := tot) hm ht hc h11 h9 hN hR hg n (i + 1) (at' + mm) (l ++ [x]) (by omega) (by omega) (by omega) (by simp [hl]) (by
     rw [Q0.szs_app]
     simp only [Q0.szs, Int.toNat_natCast] at g3 ⊢
     omega)
    rw [ih, show cnt - (i + 1) = k by omega, Q9n ha]
    simp only [Int.toNat_natCast]
   ·rw [if_neg he]
    rw [if_pos (show e ≠ 0 from he), if_pos (show e ≠ 0 from he), Qcm he]
    by_cases h3 : e = 3
    ·rw [if_pos h3, if_pos h3]; rfl
    ·rw [if_neg h3, if_neg h3]; rfl
  ·rw [if_neg (by omega), show cnt - i = 0 by omega, Jl, Q8s N text at' 0 ha]
   simp only [Option.bind_some]
   unfold Qev
   simp only []
   rw [if_neg (show ¬ ((0 : Int) ≠ 0) by simp)]
   by_cases hrest : text.drop at' = []
   ·have : text.length - at' = 0 := by
     have := congrArg List.length hrest
     rw [List.length_drop] at this; simpa using this
    rw [if_neg (by omega), if_neg (by simp [hrest])]
    have hsz : Q0.sz ⟨c.Kind, 0, [], l⟩ = 1 + Q0.szs l := by rw [Q0.sz_eq]
    rw [Qi0 N ⟨c.Kind, 0, [], l⟩ (by omega) (by omega)]
    simp only [Option.bind_some]
    split
    ·rfl
    ·simp only [Qt, Option.bind_some, h9]
   ·have : text.length - at' ≠ 0 := by
     intro h0
     exact hrest (List.drop_of_length_le (by omega))
    rw [if_pos (by omega), if_pos hrest]; rfl
theorem Qdt {R : List UInt8 → Int → Option Rd} {N : Nat} {c : Qg} {most : Int} {v9 : (List UInt8) × Q4} {v11 : Int × Q4} {rd : List UInt8 → Rd} {text : List UInt8} {cnt tot : Nat}
  (hm : 1 ≤ most ∧ most ≤ 32) (ht : text.length ≤ 600000) (hc : cnt ≤ 1000) (h11 : v11.1 = (cnt : Int)) (h9 : v9.2.at' = (tot : Int)) (hN : 700000000 < N) (hR : ∀ s, s.length ≤ text.length → R s (most - 1) = some (rd s)) (hg : Qt1 rd) :
  ∀ (n i at' : Nat) (l : List Q0), i ≤ cnt → cnt - i < n → at' ≤ text.length → l.length = i → Q0.szs l ≤ i + 1000 * at' →
  Wu R N c most v9 v11 n (i : Int) text (at' : Int) 0 l = some (Qev c.Kind 0 (Jl rd (cnt - i) (text.drop at') l) tot)
 | 0, i, at', l, _, h, _, _, _ => by omega
 | n + 1, i, at', l, hi, hn, ha, hl, hz => by
  simp only [Wu, Q6, Y6, Wb, Wy, h11, Qh0 N text at' 0 ha, Option.bind_some, Qh (most - 1) (show _ by omega), hR (text.drop at') (by rw [List.length_drop]; omega)]
  by_cases hic : i < cnt
  ·rw [if_pos (by omega)]
   obtain ⟨k, hk⟩ : ∃ k, cnt - i = k + 1 := ⟨cnt - i - 1, by omega⟩
   rw [hk, Jl]
   have hgd := hg (text.drop at') (by rw [List.length_drop]; omega)
   generalize hr : rd (text.drop at') = r at hgd ⊢
   obtain ⟨x, m, e⟩ := r
   simp only [] at hgd ⊢
   by_cases he : e = 0
   ·subst he
    obtain ⟨g1, g2, g3⟩ := hgd rfl
    rw [List.length_drop] at g2
    obtain ⟨mm, rfl⟩ := Int.eq_ofNat_of_zero_le g1
    rw [if_pos rfl, Q69 N text at' mm (by unfold Qdr; omega) ha (by omega), if_pos (by omega)]
    simp only [Option.bind_some]
    rw [if_neg (by decide), if_neg (by simp), if_pos (by simp [Nat.ble_eq]; omega), Qzx i (by omega), if_neg (by simp)]
    have ih := Qdt (c := c) (v9 := v9) (tot := tot) hm ht hc h11 h9 hN hR hg n (i + 1) (at' + mm) (l ++ [x]) (by omega) (by omega) (by omega) (by simp [hl]) (by
     rw [Q0.szs_app]
     simp only [Q0.szs, Int.toNat_natCast] at g3 ⊢
     omega)
    rw [ih, show cnt - (i + 1) = k by omega, Q9n ha]
    simp only [Int.toNat_natCast]
   ·rw [if_neg he]
    rw [if_pos (show e ≠ 0 from he), if_pos (show e ≠ 0 from he), Qcm he]
    by_cases h3 : e = 3
    ·rw [if_pos h3, if_pos h3]; rfl
    ·rw [if_neg h3, if_neg h3]; rfl
  ·rw [if_neg (by omega), show cnt - i = 0 by omega, Jl, Q8s N text at' 0 ha]
   simp only [Option.bind_some]
   unfold Qev
   simp only []
   rw [if_neg (show ¬ ((0 : Int) ≠ 0) by simp)]
   by_cases hrest : text.drop at' = []
   ·have : text.length - at' = 0 := by
     have := congrArg List.length hrest
     rw [List.length_drop] at this; simpa using this
    rw [if_neg (by omega), if_neg (by simp [hrest])]
    have hsz : Q0.sz ⟨c.Kind, 0, [], l⟩ = 1 + Q0.szs l := by rw [Q0.sz_eq]
    rw [Qi0 N ⟨c.Kind, 0, [], l⟩ (by omega) (by omega)]
    simp only [Option.bind_some]
    split
    ·rfl
    ·simp only [Qt, Option.bind_some, h9]
   ·have : text.length - at' ≠ 0 := by
     intro h0
     exact hrest (List.drop_of_length_le (by omega))
    rw [if_pos (by omega), if_pos hrest]; rfl
theorem Qcy {R : List UInt8 → Int → Option Rd} {R2 : Int → List UInt8 → Int → Option Rd} {N : Nat} {c : Qg} {most : Int} {v9 : (List UInt8) × Q4} {v11 : Int × Q4} {v23 : Int × Q4} {v25 : Qg × Bool} {rd : List UInt8 → Rd} {text : List UInt8} {cnt tot : Nat} {b : UInt8}
  (hm : 1 ≤ most ∧ most ≤ 32) (ht : text.length ≤ 600000) (hc : cnt ≤ 1000) (h11 : v11.1 = (cnt : Int)) (h9 : v9.2.at' = (tot : Int)) (h23 : v23.1 = (b.toNat : Int)) (h25 : 0 ≤ v25.1.Kind ∧ v25.1.Kind ≤ 25) (hN : 700000000 < N) (hR : ∀ s, s.length ≤ text.length → R2 (b.toNat : Int) s (most - 1) = some (rd s)) (hg : Qt1 rd) :
  ∀ (n i at' : Nat) (l : List Q0), i ≤ cnt → cnt - i < n → at' ≤ text.length → l.length = i → Q0.szs l ≤ i + 1000 * at' →
  Y5 R R2 N c most v9 v11 v23 v25 n (i : Int) text (at' : Int) 0 l = some (Qev c.Kind v25.1.Kind (Jl rd (cnt - i) (text.drop at') l) tot)
 | 0, i, at', l, _, h, _, _, _ => by omega
 | n + 1, i, at', l, hi, hn, ha, hl, hz => by
  have hb : b.toNat < 256 := b.toNat_lt
  have hkw : IntKind.u64.wrap v25.1.Kind = v25.1.Kind := by rw [Q9u]; omega
  simp only [Y5, Q6, Y6, Wb, Wy, h11, h23, Qo3, hkw, Qh0 N text at' 0 ha, Option.bind_some, Qh (most - 1) (show _ by omega), hR (text.drop at') (by rw [List.length_drop]; omega)]
  by_cases hic : i < cnt
  ·rw [if_pos (by omega), if_neg (by omega)]
   obtain ⟨k, hk⟩ : ∃ k, cnt - i = k + 1 := ⟨cnt - i - 1, by omega⟩
   rw [hk, Jl]
   have hgd := hg (text.drop at') (by rw [List.length_drop]; omega)
   generalize hr : rd (text.drop at') = r at hgd ⊢
   obtain ⟨x, m, e⟩ := r
   simp only [] at hgd ⊢
   by_cases he : e = 0
   ·subst he
    obtain ⟨g1, g2, g3⟩ := hgd rfl
    rw [List.length_drop] at g2
    obtain ⟨mm, rfl⟩ := Int.eq_ofNat_of_zero_le g1
    rw [if_pos rfl, Q69 N text at' mm (by unfold Qdr; omega) ha (by omega), if_pos (by omega)]
    simp only [Option.bind_some]
    rw [if_neg (by decide), if_neg (by simp), if_pos (by simp [Nat.ble_eq]; omega), Qzx i (by omega), if_neg (by simp)]
    have ih := Qcy (R := R) (c := c) (v9 := v9) (tot := tot) hm ht hc h11 h9 h23 h25 hN hR hg n (i + 1) (at' + mm) (l ++ [x]) (by omega) (by omega) (by omega) (by simp [hl]) (by
     rw [Q0.szs_app]
     simp only [Q0.szs, Int.toNat_natCast] at g3 ⊢
     omega)
    rw [ih, show cnt - (i + 1) = k by omega, Q9n ha]
    simp only [Int.toNat_natCast]
   ·rw [if_neg he]
    rw [if_pos (show e ≠ 0 from he), if_pos (show e ≠ 0 from he), Qcm he]
    by_cases h3 : e = 3
    ·rw [if_pos h3, if_pos h3]; rfl
    ·rw [if_neg h3, if_neg h3]; rfl
  ·rw [if_neg (by omega), show cnt - i = 0 by omega, Jl, Q8s N text at' 0 ha]
   simp only [Option.bind_some]
   unfold Qev
   simp only []
   rw [if_neg (show ¬ ((0 : Int) ≠ 0) by simp)]
   by_cases hrest : text.drop at' = []
   ·have : text.length - at' = 0 := by
     have := congrArg List.length hrest
     rw [List.length_drop] at this; simpa using this
    rw [if_neg (by omega), if_neg (by simp [hrest])]
    have hsz : Q0.sz ⟨c.Kind, v25.1.Kind, [], l⟩ = 1 + Q0.szs l := by rw [Q0.sz_eq]
    rw [Qi0 N ⟨c.Kind, v25.1.Kind, [], l⟩ (by omega) (by omega)]
    simp only [Option.bind_some]
    split
    ·rfl
    ·simp only [Qt, Option.bind_some, h9]
   ·have : text.length - at' ≠ 0 := by
     intro h0
     exact hrest (List.drop_of_length_le (by omega))
    rw [if_pos (by omega), if_pos hrest]; rfl
end
end Go.Av
namespace Go.Av
noncomputable section
open Go.Proofs
set_option maxRecDepth 100000
def Qut (k : Int) : Bool := (Ju k).all (fun x => ofB x && (ofT x).1 == x && (ofT x).2.1 == k) && ((Ju k).zip (Ju k).tail).all (fun (x, y) => decide ((ofT x).2.2.1 ≤ (ofT y).2.2.1))
theorem Qq7 : ((List.range 26).all fun k => Qut k) = true := by decide +kernel
theorem Qqr (k : Int) : Qut k = true := by
 by_cases h : k < 1 ∨ 25 < k
 ·simp [Qut, Q8b k h]
 ·have := List.all_eq_true.1 Qq7 k.toNat (by simp; omega)
  rwa [show ((k.toNat : Nat) : Int) = k by omega] at this
theorem Q4n (k x : Int) (h : x ∈ Ju k) : ofB x = true ∧ (ofS x).Code = x ∧ (ofS x).Kind = k := by
 have := Qqr k
 simp only [Qut, Bool.and_eq_true, List.all_eq_true] at this
 have := this.1 x h
 simp only [beq_iff_eq] at this
 exact ⟨this.1.1, this.1.2, this.2⟩
end
end Go.Av
namespace Go.Av
noncomputable section
open Go.Proofs
set_option maxRecDepth 100000
theorem Qw1 {R : Q0 → Option Q0} {N : Nat} {v : Q0} (hl : v.Items.length ≤ 1000) (hR : ∀ y ∈ v.Items, R y = some y) : ∀ (n i : Nat), i ≤ v.Items.length → v.Items.length - i < n →
  Yz R N v n (i : Int) (v.Items.take i) = some v
 | 0, i, _, h => by omega
 | n + 1, i, hi, hn => by
  simp only [Yz, Q6, Y6, Qn, Za]
  by_cases h : i < v.Items.length
  ·rw [if_pos (by omega), List.getElem?_eq_getElem h]
   simp only [Option.bind_some, hR _ (List.getElem_mem h)]
   rw [if_pos (by simp [Nat.ble_eq]; omega), Qh _ (by omega), ← List.take_succ_eq_append_getElem h]
   exact_mod_cast Qw1 hl hR n (i + 1) (by omega) (by omega)
  ·rw [if_neg (by omega), List.take_of_length_le (by omega)]; cases v; rfl
theorem Qv9 : ∀ (N : Nat) (v : Q0), v.sz < N → v.sz < 1000 → Wo N v = some v
 | 0, v, h, _ => by omega
 | N + 1, v, h, h2 => by
  have hs := v.sz_eq
  have hl := Q0.szs_len v.Items
  have := Qw1 (R := Wo N) (N := N) (v := v) (by omega) (fun y hy => Qv9 N y (by have := Q0.szs_mem _ y hy; omega) (by have := Q0.szs_mem _ y hy; omega)) N 0 (by omega) (by omega)
  exact this
end
end Go.Av
namespace Go.Av
noncomputable section
open Go.Proofs
set_option maxRecDepth 100000
theorem Qz1 {c : Int} {v : Q0} (h : Q34 c v = true) : Qsw c v = (Q2e (ofS c) v, 0) := by
 unfold Qsw
 rw [if_neg (show ¬ (Vx v ≠ 0) by simp [(Q3h h).2.2.1]), h]; rfl
theorem Z48 {code : Int} {v : Q0} {k : Nat} (hf : Q34 code v = true) (hk : k < (Q2e (ofS code) v).length) : Qco code ((Q2e (ofS code) v).take k) = (Q2m, 0, 3) := by
 have hlen := Q8a hf
 obtain ⟨f1, f2, f3, f4⟩ := Q3h hf
 obtain ⟨c1, c2, c3, c4, c5, c6, c7⟩ := Gd f3
 have hw := Qej code f1
 have hi := Q13 hw (by omega)
 have hw0 : ((Q2e (ofS code) v).take k).length = k := by rw [List.length_take]; omega
 unfold Qco
 rw [f1, hi, if_neg (by simp), hw0]
 split
 ·rfl
 rename_i hkw
 cases hw.shape hi with
 | sized w hs hw' h12 hk2 hc =>
  simp only [hs, hw', if_true, Int.toNat_natCast] at hlen hkw ⊢
  have hkw : w ≤ k := by omega
  have e1 : ((Q2e (ofS code) v).take k).take w = Q05 v.Text.length w := by
   rw [List.take_take, Nat.min_eq_left hkw]
   unfold Q2e
   rw [hs, if_pos rfl, hw', Int.toNat_natCast, List.take_left' (Yk _ _)]
  have e3 : v.Text.length % 256 ^ w = v.Text.length := by
   apply Nat.mod_eq_of_lt
   unfold Q6w at f4
   rw [if_neg hc, hs, if_pos rfl, hw'] at f4
   rcases h12 with rfl | rfl
   ·simp at f4; omega
   ·omega
  rw [e1, Qcl, e3, if_pos (by omega)]
 | wide hs hw' hk2 hc =>
  simp only [hs, hw', Bool.false_eq_true, if_false] at hlen hkw
  have : (16 : Int).toNat = 16 := rfl
  omega
 | num w hs hw' hh ht hc hbb =>
  simp only [hs, hw', Bool.false_eq_true, if_false] at hlen hkw
  omega
end
end Go.Av
namespace Go.Av
noncomputable section
open Go.Proofs
set_option maxRecDepth 100000
theorem longer {a b : Int} {v : Q0} (ha : Q34 a v = true) (hb : Q34 b v = true) (hw : (ofS a).Width ≤ (ofS b).Width) : (Q2e (ofS a) v).length ≤ (Q2e (ofS b) v).length := by
 rw [Q8a ha, Q8a hb]
 obtain ⟨f1, f2, f3, f4⟩ := Q3h ha
 obtain ⟨g1, g2, g3, g4⟩ := Q3h hb
 obtain ⟨c1, c2, _⟩ := Gd f3
 have wa := Qej a f1
 have wb := Qej b g1
 have hs : (ofS a).Sized = true → (ofS b).Sized = true := fun hs => by
  obtain ⟨_, q1, q2, _⟩ := wa.sized (Q13 wa (by omega)) hs
  cases wb.shape (Q13 wb (by omega)) with
  | sized w hs hw' h12 hk2 hc => exact hs
  | wide hs hw' hk2 hc => omega
  | num w hs hw' hh ht hc hbb =>
   have := Qd0 (k := (ofS b).Kind) (by omega)
   rw [ht] at this; cases this
 cases h : (ofS a).Sized with
 | true => rw [hs h]; simp only [if_true]; omega
 | false => simp only [Bool.false_eq_true, if_false]; omega
end
end Go.Av
