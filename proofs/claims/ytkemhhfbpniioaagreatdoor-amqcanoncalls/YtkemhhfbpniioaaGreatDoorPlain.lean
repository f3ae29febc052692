/- The law. Part of a proof of a given statement: for every input the law returns true and the arguments read as before; no condition beyond the given row. -/
import Derived.Test.YtkemhhfbpniioaaGreatDoorLiftF4
import Derived.Test.YtkemhhfbpniioaaGreatDoorAvLift
import Derived.Test.YtkemhhfbpniioaaGreatDoorOks
namespace Go.Av
noncomputable section
open Go.Proofs
theorem Q6 {α : Type} (b : Bool) (x y : α) : cond b x y = if b = true then x else y := by cases b <;> rfl
@[simp] theorem Xo (x y : Int) : (Q5 .lss x y = true) = (x < y) := by simp [Q5]
@[simp] theorem Q74 (x y : Int) : (Q5 .leq x y = true) = (x ≤ y) := by simp [Q5]
@[simp] theorem Q37 (x y : Int) : (Q5 .gtr x y = true) = (x > y) := by simp [Q5]
@[simp] theorem Qay (x y : Int) : (Q5 .geq x y = true) = (x ≥ y) := by simp [Q5]
@[simp] theorem Wb (x y : Int) : (Q5 .eql x y = true) = (x = y) := by simp [Q5]
@[simp] theorem Ub (x y : Int) : (Q5 .neq x y = true) = (x ≠ y) := by simp [Q5]
theorem Qq (x : Int) (h : -9223372036854775808 ≤ x ∧ x ≤ 9223372036854775807) : IntKind.wrap .i64 x = x := IntWalk.i64_in x h
mutual
def Q0.sz : Q0 → Nat
 | .mk _ _ _ is => 1 + Q0.szs is
def Q0.szs : List Q0 → Nat
 | [] => 0
 | v :: l => v.sz + Q0.szs l
end
theorem Q0.sz_eq (v : Q0) : v.sz = 1 + Q0.szs v.Items := by cases v; simp [Q0.sz]
theorem Q0.szs_len : ∀ l : List Q0, l.length ≤ Q0.szs l
 | [] => by simp
 | v :: l => by
  have h1 := Q0.szs_len l
  have h2 := Q0.sz_eq v
  simp only [Q0.szs, List.length_cons]
  omega
theorem Q0.szs_mem : ∀ (l : List Q0) (v : Q0), v ∈ l → v.sz ≤ Q0.szs l
 | [], v, h => by cases h
 | u :: l, v, h => by
  simp only [Q0.szs]
  rcases List.mem_cons.1 h with rfl | h
  ·omega
  ·have := Q0.szs_mem l v h; omega
noncomputable instance : DecidableEq Q0 := fun a b => Classical.propDecidable (a = b)
theorem Z9 (l : List Q0) : (Q0.rows l).length = l.length := by rw [Q0.rows_eq, Jn]
theorem Yb {α : Type} (l : List α) (i : Nat) : idx l (i : Int) = l[i]? := rfl
theorem Q9k {R : Q0 → Q0 → Option Bool} {N : Nat} {a b : Q0} (hlen : a.Items.length = b.Items.length) (hb : a.Items.length < 4611686018427387904)
  (hR : ∀ y ∈ a.Items, ∀ z, R y z = some (decide (y = z))) : ∀ (n i : Nat), i ≤ a.Items.length → a.Items.length - i < n →
  Ye R N a b n (i : Int) = some (decide (a.Items.drop i = b.Items.drop i))
 | 0, i, _, h => by omega
 | n + 1, i, h1, h2 => by
  simp only [Ye, Q6, Xo, Z9]
  by_cases hi : i < a.Items.length
  ·rw [if_pos (by omega), Yb, Yb, List.getElem?_eq_getElem hi, List.getElem?_eq_getElem (show i < b.Items.length by omega)]
   simp only [Option.bind_some, hR _ (List.getElem_mem hi)]
   rw [Qq _ (by omega)]
   have ih := Q9k (N := N) hlen hb hR n (i + 1) (by omega) (by omega)
   rw [List.drop_eq_getElem_cons hi, List.drop_eq_getElem_cons (show i < b.Items.length by omega)]
   by_cases he : a.Items[i] = b.Items[i]
   ·rw [← he]; simp only [decide_true, Bool.not_true, Bool.false_eq_true, if_false, List.cons.injEq, true_and]
    exact_mod_cast ih
   ·have hne : ¬ (a.Items[i] :: List.drop (i + 1) a.Items = b.Items[i] :: List.drop (i + 1) b.Items) := fun e => he (List.cons.inj e).1
    simp only [he, decide_false, Bool.not_false, if_true]
    rw [decide_eq_false hne]
  ·rw [if_neg (by omega), List.drop_of_length_le (by omega), List.drop_of_length_le (by omega)]
   simp
theorem Gg (x y : List UInt8) : (Q36 .neq x y = true) = (x ≠ y) := by simp [Q36]
theorem Q9j : ∀ (N : Nat) (a b : Q0), a.sz < N → a.sz < 1000000000 → Yg N a b = some (decide (a = b))
 | 0, a, b, h, _ => by have := a.sz_eq; omega
 | N + 1, a, b, h, h2 => by
  have hs := a.sz_eq
  have hl := Q0.szs_len a.Items
  simp only [Yg, Uf, Q6, Ub, Gg, Z9]
  by_cases e1 : a.Kind = b.Kind
  ·by_cases e2 : a.N' = b.N'
   ·by_cases e3 : a.Text = b.Text
    ·by_cases e4 : a.Items.length = b.Items.length
     ·rw [if_neg (by simp [e1]), if_neg (by simp [e2]), if_neg (by simp [e3]), if_neg (by simp [e4])]
      have := Q9k (N := N) (R := Yg N) e4 (by omega) (fun y hy z => Q9j N y z (by have := Q0.szs_mem _ y hy; omega) (by have := Q0.szs_mem _ y hy; omega)) N 0 (by omega) (by omega)
      rw [show (0 : Int) = ((0 : Nat) : Int) from rfl, this]
      cases a; cases b; simp_all
     ·rw [if_neg (by simp [e1]), if_neg (by simp [e2]), if_neg (by simp [e3]), if_pos (by omega)]
      have : a ≠ b := fun e => e4 (by rw [e])
      simp [this]
    ·rw [if_neg (by simp [e1]), if_neg (by simp [e2]), if_pos (by simpa using e3)]
     have : a ≠ b := fun e => e3 (by rw [e])
     simp [this]
   ·rw [if_neg (by simp [e1]), if_pos (by simpa using e2)]
    have : a ≠ b := fun e => e2 (by rw [e])
    simp [this]
  ·rw [if_pos (by simpa using e1)]
   have : a ≠ b := fun e => e1 (by rw [e])
   simp [this]
end
end Go.Av
namespace Go.Av
noncomputable section
open Go.Proofs
mutual
def Q0.txt : Q0 → Prop
 | .mk _ _ t is => t.length ≤ 400 ∧ Q0.txts is
def Q0.txts : List Q0 → Prop
 | [] => True
 | v :: l => v.txt ∧ Q0.txts l
end
theorem Q0.txt_eq (v : Q0) : v.txt = (v.Text.length ≤ 400 ∧ Q0.txts v.Items) := by cases v; simp [Q0.txt]
theorem Q0.szs_app : ∀ l m : List Q0, Q0.szs (l ++ m) = Q0.szs l + Q0.szs m
 | [], m => by simp [Q0.szs]
 | v :: l, m => by simp [Q0.szs, Q0.szs_app l m]; omega
theorem Q0.txts_app : ∀ l m : List Q0, Q0.txts (l ++ m) = (Q0.txts l ∧ Q0.txts m)
 | [], m => by simp [Q0.txts]
 | v :: l, m => by simp [Q0.txts, Q0.txts_app l m, and_assoc]
theorem Qk6 {R : Q0 → Int → Int → Option Int} {N : Nat} {v : Q0} {deep most : Int} (hd : 0 ≤ deep ∧ deep ≤ 6) (hm : 0 ≤ most ∧ most ≤ 40) (hl : (v.Items.length : Int) ≤ most)
  (hR : ∀ y (m : Int), 0 ≤ m → m ≤ 40 → ∃ r, R y (deep - 1) m = some r ∧ 1 ≤ r ∧ r ≤ m + 1 ∧ (r ≤ m → r = y.sz ∧ y.txt)) : ∀ (n : Nat) (k : Int) (i : Nat), i ≤ v.Items.length → v.Items.length - i < n →
  1 ≤ k → k ≤ most + 1 → (k ≤ most → k = 1 + Q0.szs (v.Items.take i) ∧ Q0.txts (v.Items.take i)) →
  ∃ r, W3 R N v deep most n k (i : Int) = some r ∧ 1 ≤ r ∧ r ≤ most + 1 ∧ (r ≤ most → r = 1 + Q0.szs v.Items ∧ Q0.txts v.Items)
 | 0, _, _, _, h, _, _, _ => by omega
 | n + 1, k, i, h1, h2, hk1, hk2, hk3 => by
  simp only [W3, Q6, Xo, Q74, Z9]
  by_cases hi : i < v.Items.length
  ·rw [if_pos (by omega)]
   by_cases hkm : k ≤ most
   ·rw [if_pos hkm, Yb, List.getElem?_eq_getElem hi, Qq (deep - 1) (by omega), Qq (most - k) (by omega)]
    obtain ⟨r, r1, r2, r3, r4⟩ := hR v.Items[i] (most - k) (by omega) (by omega)
    simp only [Option.bind_some, r1]
    rw [Qq (k + r) (by omega), Qq ((i : Int) + 1) (by omega)]
    have := Qk6 (N := N) hd hm hl hR n (k + r) (i + 1) (by omega) (by omega) (by omega) (by omega) (fun h => by
     obtain ⟨q1, q2⟩ := r4 (by omega)
     obtain ⟨q3, q4⟩ := hk3 hkm
     rw [List.take_succ_eq_append_getElem hi, Q0.szs_app, Q0.txts_app]
     refine ⟨?_, q4, ?_⟩
     ·simp only [Q0.szs]; omega
     ·simp only [Q0.txts]; exact ⟨q2, trivial⟩)
    exact_mod_cast this
   ·rw [if_neg hkm]
    exact ⟨k, rfl, hk1, hk2, fun h => absurd h hkm⟩
  ·rw [if_neg (by omega)]
   refine ⟨k, rfl, hk1, hk2, fun h => ?_⟩
   have := hk3 h
   rwa [List.take_of_length_le (by omega)] at this
theorem Qdq : ∀ (N : Nat) (v : Q0) (deep most : Int), -1 ≤ deep → deep ≤ 6 → 0 ≤ most → most ≤ 40 → deep + 50 < N →
  ∃ r, Wc N v deep most = some r ∧ 1 ≤ r ∧ r ≤ most + 1 ∧ (r ≤ most → r = v.sz ∧ v.txt)
 | 0, v, deep, most, h1, h2, h3, h4, h5 => by omega
 | N + 1, v, deep, most, h1, h2, h3, h4, h5 => by
  simp only [Wc, Jq, Q6, Xo, Q37, Z9, Qq (most + 1) (show _ by omega)]
  by_cases e1 : deep < 0
  ·rw [if_pos e1]; exact ⟨_, rfl, by omega, by omega, fun h => by omega⟩
  rw [if_neg e1]
  by_cases e2 : (v.Items.length : Int) > most
  ·rw [if_pos e2]; exact ⟨_, rfl, by omega, by omega, fun h => by omega⟩
  rw [if_neg e2]
  by_cases e3 : (v.Text.length : Int) > 400
  ·rw [if_pos e3]; exact ⟨_, rfl, by omega, by omega, fun h => by omega⟩
  rw [if_neg e3]
  have := Qk6 (N := N) (R := Wc N) (v := v) (deep := deep) (most := most) ⟨by omega, h2⟩ ⟨h3, h4⟩ (by omega)
   (fun y m hm1 hm2 => Qdq N y (deep - 1) m (by omega) (by omega) hm1 hm2 (by omega)) N 1 0 (by omega) (by omega) (by omega) (by omega) (fun _ => by simp [Q0.szs, Q0.txts])
  obtain ⟨r, r1, r2, r3, r4⟩ := this
  refine ⟨r, r1, r2, r3, fun h => ?_⟩
  obtain ⟨q1, q2⟩ := r4 h
  have hs := v.sz_eq
  rw [Q0.txt_eq]
  exact ⟨by omega, by omega, q2⟩
theorem Qd6 (N : Nat) (v : Q0) (h : 60 < N) : ∃ b, Yz N v = some b ∧ (b = true → v.sz ≤ 40 ∧ v.txt) := by
 obtain ⟨r, r1, r2, r3, r4⟩ := Qdq N v 6 40 (by omega) (by omega) (by omega) (by omega) (by omega)
 refine ⟨Q5 .leq r 40, by simp [Yz, r1], fun h => ?_⟩
 rw [Q74] at h
 obtain ⟨q1, q2⟩ := r4 h
 exact ⟨by omega, q2⟩
end
end Go.Av
namespace Go.Av
noncomputable section
open Go.Proofs
def Ji (k : Int) : Int × Bool :=
 if k = 2 then (1, false) else if k = 3 then (8, false) else if k = 4 then (16, false)
 else if k = 5 ∨ k = 11 ∨ k = 13 ∨ k = 16 then (32, false) else if k = 6 ∨ k = 12 ∨ k = 14 then (64, false)
 else if k = 7 then (8, true) else if k = 8 then (16, true) else if k = 9 then (32, true) else if k = 10 ∨ k = 17 then (64, true) else (0, false)
theorem Qij (N : Nat) (k : Int) : Ja N k = some (Ji k) := by
 by_cases h2 : k = 2
 ·subst h2; rfl
 by_cases h3 : k = 3
 ·subst h3; rfl
 by_cases h4 : k = 4
 ·subst h4; rfl
 by_cases h5 : k = 5
 ·subst h5; rfl
 by_cases h11 : k = 11
 ·subst h11; rfl
 by_cases h13 : k = 13
 ·subst h13; rfl
 by_cases h16 : k = 16
 ·subst h16; rfl
 by_cases h6 : k = 6
 ·subst h6; rfl
 by_cases h12 : k = 12
 ·subst h12; rfl
 by_cases h14 : k = 14
 ·subst h14; rfl
 by_cases h7 : k = 7
 ·subst h7; rfl
 by_cases h8 : k = 8
 ·subst h8; rfl
 by_cases h9 : k = 9
 ·subst h9; rfl
 by_cases h10 : k = 10
 ·subst h10; rfl
 by_cases h17 : k = 17
 ·subst h17; rfl
 unfold Ja Ji
 simp [Q6, h2, h3, h4, h5, h11, h13, h16, h6, h12, h14, h7, h8, h9, h10, h17]
def Q1p (k : Int) : Bool := decide (k = 15 ∨ k = 18 ∨ k = 19 ∨ k = 20 ∨ k = 21)
theorem Qlx (N : Nat) (k : Int) : Uj N k = some (Q1p k) := by
 unfold Uj Q1p
 simp only [Q6, Wb]
 repeat' split
 all_goals simp_all
def Qcv (n : Int) : Bool := decide (n ≤ 1114111 ∧ ¬ (55296 ≤ n ∧ n ≤ 57343))
theorem Qhm (N : Nat) (n : Int) (h0 : 0 ≤ n) : Un N n = some (Qcv n) := by
 unfold Un Vx Qcv
 simp only [Q6, Q74, Xo]
 by_cases h : n ≤ 1114111
 ·have hw : IntKind.wrap .i32 n = n := by
   simp only [IntKind.wrap, IntKind.bits, IntKind.signed]
   simp
   omega
  rw [if_pos h, hw]
  repeat' split
  all_goals (simp; omega)
 ·rw [if_neg h]
  simp [h]
def s64 (n : Int) : Int := if n < 9223372036854775808 then n else n - 18446744073709551616
theorem Qq5 (n : Int) (h0 : 0 ≤ n) (h1 : n < 18446744073709551616) : IntKind.i64.wrap n = s64 n := by
 unfold s64
 split
 ·exact IntWalk.i64_in n (by omega)
 ·simp only [IntKind.wrap, IntKind.bits, IntKind.signed]
  simp
  omega
def Q0a (n bits : Int) (signed : Bool) : Bool := if signed then decide (-(2 ^ (bits.toNat - 1)) ≤ s64 n ∧ s64 n < 2 ^ (bits.toNat - 1)) else decide (n < 2 ^ bits.toNat)
theorem Qdj {m k : Nat} (h : m ≤ k) : (2 : Int) ^ m ≤ 2 ^ k := by
 have := Nat.pow_le_pow_right (n := 2) (by omega) h
 exact_mod_cast this
theorem two_pow_pos (m : Nat) : (1 : Int) ≤ 2 ^ m := by
 have := Nat.one_le_two_pow (n := m)
 exact_mod_cast this
theorem Qtr (k : Int) (h0 : 0 ≤ k) (h1 : k ≤ 63) : IntKind.i64.wrap (-1 * 2 ^ min (IntKind.i64.wrap k).toNat IntKind.i64.bits) = -(2 ^ k.toNat) := by
 have e1 : IntKind.i64.wrap k = k := IntWalk.i64_in _ (by omega)
 have e2 : min k.toNat IntKind.i64.bits = k.toNat := by simp [IntKind.bits]; omega
 have h2 := Qdj (m := k.toNat) (k := 63) (by omega)
 have h3 := two_pow_pos k.toNat
 rw [e1, e2, IntWalk.i64_in _ (by omega)]
 omega
theorem Qbv (N : Nat) (n bits : Int) (signed : Bool) (h0 : 0 ≤ n) (h1 : n < 18446744073709551616) (hb0 : 0 ≤ bits) (hb1 : bits ≤ 64) (hs : signed = true → 1 ≤ bits) :
  U1 N n bits signed = some (Q0a n bits signed) := by
 unfold U1
 cases signed
 ·simp only [Q6, Wb, Bool.false_eq_true, if_false, decide_eq_true_eq]
  by_cases h : bits = 64
  ·rw [if_pos h]
   subst h
   simp only [Q0a, Bool.false_eq_true, if_false, Option.some.injEq]
   exact (decide_eq_true (by simpa using h1)).symm
  ·rw [if_neg h, if_pos hb0]
   simp only [Q0a, Bool.false_eq_true, if_false, Option.some.injEq, Q5, Q2s]
   have e2 : min bits.toNat IntKind.u64.bits = bits.toNat := by simp [IntKind.bits]; omega
   rw [e2, Bool.eq_iff_iff]
   simp only [beq_iff_eq, decide_eq_true_eq]
   have h3 := two_pow_pos bits.toNat
   rw [Int.fdiv_eq_ediv_of_nonneg _ (by omega)]
   constructor
   ·intro h4
    have := Int.lt_ediv_add_one_mul_self n (show (0 : Int) < 2 ^ bits.toNat by omega)
    rw [h4] at this
    simpa using this
   ·intro h4
    exact Int.ediv_eq_zero_of_lt h0 h4
 ·have hs := hs rfl
  have e1 : IntKind.i64.wrap (bits - 1) = bits - 1 := IntWalk.i64_in _ (by omega)
  have e2 := Qtr (bits - 1) (by omega) (by omega)
  have e3 := Qq5 n h0 h1
  have h2 := Qdj (m := (bits - 1).toNat) (k := 63) (by omega)
  have h3 := two_pow_pos (bits - 1).toNat
  have e4 : (bits - 1).toNat = bits.toNat - 1 := by omega
  rw [e1] at e2
  simp only [Q6, Qay, if_true, decide_eq_true_eq, Gb, e1, e2, e3]
  rw [if_pos (by omega), IntWalk.i64_in (-2 ^ (bits - 1).toNat + 1) (by omega), IntWalk.i64_in (0 - (-2 ^ (bits - 1).toNat + 1)) (by omega)]
  rw [e4] at h2 h3 ⊢
  split
  ·rename_i h
   simp only [Q0a, if_true, Option.some.injEq, Q5, decide_eq_decide]
   omega
  ·rename_i h
   simp only [Q0a, if_true, Option.some.injEq]
   exact (decide_eq_false (by omega)).symm
end
end Go.Av
namespace Go.Av
noncomputable section
def Q1r (s : List UInt8) : Nat := s.foldl (fun a b => a * 256 + b.toNat) 0
theorem Q85 (s : List UInt8) (b : UInt8) : Q1r (s ++ [b]) = Q1r s * 256 + b.toNat := by simp [Q1r]
def Q1a : Nat → Nat → List UInt8
 | _, 0 => []
 | n, w + 1 => Q1a (n / 256) w ++ [UInt8.ofNat (n % 256)]
theorem Uw : ∀ (w n : Nat), (Q1a n w).length = w
 | 0, _ => rfl
 | w + 1, n => by simp [Q1a, Uw w]
theorem Qaf : ∀ (w n : Nat), Q1r (Q1a n w) = n % 256 ^ w
 | 0, n => by simp [Q1a, Q1r, Nat.mod_one]
 | w + 1, n => by
  rw [Q1a, Q85, Qaf w, Nat.pow_succ, Nat.mul_comm (256 ^ w) 256, Nat.mod_mul]
  have : (UInt8.ofNat (n % 256)).toNat = n % 256 := by simp
  rw [this]; omega
theorem Qs3 {α : Type} {P : List α → Prop} (h0 : P []) (h1 : ∀ s b, P s → P (s ++ [b])) (s : List α) : P s := by
 have h : ∀ t : List α, P t.reverse := by
  intro t
  induction t with
  | nil => exact h0
  | cons b t ih => rw [List.reverse_cons]; exact h1 _ _ ih
 have := h s.reverse
 rwa [List.reverse_reverse] at this
theorem Q2e : ∀ (s : List UInt8), Q1r s < 256 ^ s.length := by
 refine Qs3 (by simp [Q1r]) (fun s b ih => ?_)
 ·rw [Q85, List.length_append, List.length_singleton, Nat.pow_succ]
  have := b.toNat_lt
  simp at this
  omega
theorem Qnq : ∀ (s : List UInt8), Q1a (Q1r s) s.length = s := by
 refine Qs3 rfl (fun s b ih => ?_)
 ·rw [Q85, List.length_append, List.length_singleton, Q1a]
  have hb := b.toNat_lt
  simp at hb
  rw [show (Q1r s * 256 + b.toNat) / 256 = Q1r s by omega, ih, show (Q1r s * 256 + b.toNat) % 256 = b.toNat by omega]
  simp
theorem Qjf : ∀ (w n : Nat), Q1a (n % 256 ^ w) w = Q1a n w
 | 0, n => rfl
 | w + 1, n => by
  have h := Qjf w (n / 256)
  rw [Q1a, Q1a, Nat.pow_succ, Nat.mul_comm (256 ^ w) 256, Nat.mod_mul]
  rw [show (n % 256 + 256 * (n / 256 % 256 ^ w)) / 256 = n / 256 % 256 ^ w by omega, h, show (n % 256 + 256 * (n / 256 % 256 ^ w)) % 256 = n % 256 by omega]
end
end Go.Av
namespace Go.Av
noncomputable section
open Go.Proofs
def inB (s : List UInt8) (i lo hi : Nat) : Bool := match s[i]? with
 | some b => decide (lo ≤ b.toNat ∧ b.toNat ≤ hi)
 | none => false
def cpN (s : List UInt8) : Nat := match s with
 | [] => 0
 | c :: _ => if c.toNat < 128 then 1
  else if 194 ≤ c.toNat ∧ c.toNat ≤ 223 then (if inB s 1 128 191 then 2 else 0)
  else if c.toNat = 224 then (if inB s 1 160 191 && inB s 2 128 191 then 3 else 0)
  else if c.toNat = 237 then (if inB s 1 128 159 && inB s 2 128 191 then 3 else 0)
  else if 225 ≤ c.toNat ∧ c.toNat ≤ 239 then (if inB s 1 128 191 && inB s 2 128 191 then 3 else 0)
  else if c.toNat = 240 then (if inB s 1 144 191 && inB s 2 128 191 && inB s 3 128 191 then 4 else 0)
  else if 241 ≤ c.toNat ∧ c.toNat ≤ 243 then (if inB s 1 128 191 && inB s 2 128 191 && inB s 3 128 191 then 4 else 0)
  else if c.toNat = 244 then (if inB s 1 128 143 && inB s 2 128 191 && inB s 3 128 191 then 4 else 0)
  else 0
def Q7p : Nat → List UInt8 → Bool
 | 0, s => s.isEmpty
 | n + 1, s => if s.isEmpty then true else match cpN s with
  | 0 => false
  | k + 1 => Q7p n (s.drop (k + 1))
def Ud (s : List UInt8) : Bool := Q7p s.length s
theorem Qhj : ∀ (n m : Nat) (s : List UInt8), s.length ≤ n → s.length ≤ m → Q7p n s = Q7p m s
 | 0, 0, s, _, _ => rfl
 | 0, m + 1, s, h, _ => by
  have : s = [] := List.length_eq_zero_iff.1 (by omega)
  subst this; simp [Q7p]
 | n + 1, 0, s, _, h => by
  have : s = [] := List.length_eq_zero_iff.1 (by omega)
  subst this; simp [Q7p]
 | n + 1, m + 1, s, h1, h2 => by
  simp only [Q7p]
  cases s with
  | nil => rfl
  | cons c r =>
   simp only [List.isEmpty_cons, Bool.false_eq_true, if_false]
   split
   ·rfl
   ·exact Qhj n m _ (by simp at h1 ⊢; omega) (by simp at h2 ⊢; omega)
theorem Qmh : Ud [] = true := rfl
theorem Q5g (s : List UInt8) (hne : s ≠ []) (h : cpN s = 0) : Ud s = false := by
 cases s with
 | nil => exact absurd rfl hne
 | cons c r => unfold Ud; simp only [List.length_cons, Q7p, h]; rfl
theorem Q3n (s : List UInt8) (k : Nat) (h : cpN s = k + 1) : Ud s = Ud (s.drop (k + 1)) := by
 cases s with
 | nil => simp [cpN] at h
 | cons c r =>
  unfold Ud
  simp only [List.length_cons, Q7p, h, List.isEmpty_cons, Bool.false_eq_true, if_false]
  exact Qhj _ _ _ (by simp) (by simp)
theorem Q6v : ∀ (k : Nat) (s : List UInt8), (∀ b ∈ s.take k, b < 128) → Ud s = Ud (s.drop k)
 | 0, s, _ => by simp
 | k + 1, [], _ => by simp
 | k + 1, c :: r, h => by
  have hc : c < 128 := h c (by simp)
  have h1 : cpN (c :: r) = 1 := by simp only [cpN]; rw [if_pos (by exact hc)]
  rw [Q3n (c :: r) 0 h1]
  simpa using Q6v k r (fun b hb => h b (by simp [hb]))
def Q55 (s : List UInt8) : Bool := s.all fun b => decide (b.toNat < 128)
def Q7b (k n : Int) : Bool := Q0a n (Ji k).1 (Ji k).2 && (k != 16 || Qcv n)
def Qg7 (k : Int) (t : List UInt8) : Int := if k = 20 then (if Ud t then 0 else 6) else if k = 21 then (if Q55 t then 0 else 6) else 0
def V6 (v : Q0) : Int :=
 if v.Kind < 1 ∨ 21 < v.Kind then 8
 else if Q7b v.Kind v.N' = false ∨ v.Items ≠ [] then 2
 else if Q1p v.Kind = false then (if v.Text ≠ [] then 2 else 0)
 else if (v.Kind = 15 ∨ v.Kind = 18) ∧ v.Text.length ≠ 16 then 2
 else if 1048576 < v.Text.length then 4 else Qg7 v.Kind v.Text
def Q58 (c : Qf) (v : Q0) : Bool :=
 if c.Code = 65 then decide (v.N' = 1) else if c.Sized then decide (c.Width = 4 ∨ v.Text.length ≤ 255)
 else if c.Width = 0 then decide (v.N' = 0) else if c.Width = 1 then Q0a v.N' 8 (Ji c.Kind).2 else true
def Q1q (code : Int) (v : Q0) : Bool := ofB code && decide ((ofS code).Kind = v.Kind) && decide (V6 v = 0) && Q58 (ofS code) v
def Q0z (c : Qf) (v : Q0) : List UInt8 :=
 if c.Sized then Q1a v.Text.length c.Width.toNat ++ v.Text else if c.Width = 16 then v.Text else Q1a v.N'.toNat c.Width.toNat
def Qpk (code : Int) (v : Q0) : List UInt8 × Int :=
 if V6 v ≠ 0 then ([], V6 v) else if Q1q code v = false then ([], 2) else (Q0z (ofS code) v, 0)
def Gd (c : Qf) (n : Int) : Int := if (Ji c.Kind).2 = true ∧ 0 < c.Width ∧ 2 ^ (8 * c.Width.toNat - 1) ≤ n then n + (18446744073709551616 - 2 ^ (8 * c.Width.toNat)) else n
def Q0i : Q0 := ⟨0, 0, [], []⟩
def Qma (v : Q0) (n : Int) : Q0 × Int × Int := if V6 v = 0 then (v, n, 0) else (Q0i, 0, if V6 v = 2 then 5 else V6 v)
def Qab (code : Int) (s : List UInt8) : Q0 × Int × Int :=
 if ofB code = false ∨ (ofS code).Items = true then (Q0i, 0, 8)
 else if (s.length : Int) < (ofS code).Width then (Q0i, 0, 3)
 else if (ofS code).Sized = true then
  if s.length - (ofS code).Width.toNat < Q1r (s.take (ofS code).Width.toNat) then (Q0i, 0, 3)
  else Qma ⟨(ofS code).Kind, 0, (s.drop (ofS code).Width.toNat).take (Q1r (s.take (ofS code).Width.toNat)), []⟩ ((ofS code).Width + Q1r (s.take (ofS code).Width.toNat))
 else if (ofS code).Width = 16 then Qma ⟨(ofS code).Kind, 0, s.take 16, []⟩ 16
 else if (ofS code).Code = 65 then Qma ⟨(ofS code).Kind, 1, [], []⟩ 0
 else Qma ⟨(ofS code).Kind, Gd (ofS code) (Q1r (s.take (ofS code).Width.toNat)), [], []⟩ (ofS code).Width
end
end Go.Av
namespace Go.Av
noncomputable section
open Go.Proofs
set_option maxRecDepth 100000
def Jk : List UInt8 → Nat
 | [] => 0
 | b :: r => b.toNat + 256 * Jk r
theorem Qkl : ∀ (s : List UInt8) (k : Nat), s.length ≤ k → Jk s < 256 ^ k
 | [], k, _ => Nat.pow_pos (by omega)
 | b :: r, 0, h => by simp at h
 | b :: r, k + 1, h => by
  have h1 := Qkl r k (by simpa using h)
  have h2 : b.toNat < 256 := b.toNat_lt
  rw [Jk, Nat.pow_succ]
  omega
theorem Qak (a b : Nat) (n m : Nat) (ha : a < 2 ^ n) (hb : b < 2 ^ m) (hn : n + m ≤ 64) :
  IntKind.u64.wrap (((BitVec.ofInt IntKind.u64.bits (a : Int) ||| BitVec.ofInt IntKind.u64.bits (IntKind.u64.wrap ((b : Int) * 2 ^ min n IntKind.u64.bits))).toNat : Nat) : Int) = ((a + 2 ^ n * b : Nat) : Int) := by
 have h64 : IntKind.u64.bits = 64 := rfl
 have hw : ∀ z : Int, IntKind.u64.wrap z = z % 18446744073709551616 := fun z => by simp [IntKind.wrap, IntKind.bits, IntKind.signed]
 have hnn : min n 64 = n := by omega
 have hp : 2 ^ n * b < 2 ^ 64 := by
  calc 2 ^ n * b < 2 ^ n * 2 ^ m := Nat.mul_lt_mul_of_pos_left hb (Nat.two_pow_pos n)
   _ = 2 ^ (n + m) := (Nat.pow_add 2 n m).symm
   _ ≤ 2 ^ 64 := Nat.pow_le_pow_right (by omega) hn
 have ha64 : a < 2 ^ 64 := Nat.lt_of_lt_of_le ha (Nat.pow_le_pow_right (by omega) (by omega))
 have e1 : ((b : Int) * 2 ^ n) = ((2 ^ n * b : Nat) : Int) := by push_cast; exact Int.mul_comm _ _
 rw [h64, hnn, e1, hw, hw]
 have e2 : ((2 ^ n * b : Nat) : Int) % 18446744073709551616 = ((2 ^ n * b : Nat) : Int) := by
  rw [Int.emod_eq_of_lt (by omega) (by have : (2 : Nat) ^ 64 = 18446744073709551616 := rfl; omega)]
 rw [e2, BitVec.ofInt_natCast, BitVec.ofInt_natCast, BitVec.toNat_or, BitVec.toNat_ofNat, BitVec.toNat_ofNat, Nat.mod_eq_of_lt ha64, Nat.mod_eq_of_lt hp]
 have e3 : a ||| 2 ^ n * b = a + 2 ^ n * b := by
  have := Nat.shiftLeft_add_eq_or_of_lt ha b
  rw [Nat.shiftLeft_eq, Nat.mul_comm] at this
  rw [Nat.or_comm, ← this, Nat.add_comm]
 rw [e3]
 have e4 : a + 2 ^ n * b < 18446744073709551616 := by
  have hb2 : b + 1 ≤ 2 ^ m := hb
  have : 2 ^ n * (b + 1) ≤ 2 ^ n * 2 ^ m := Nat.mul_le_mul_left _ hb2
  rw [← Nat.pow_add] at this
  have h5 : 2 ^ (n + m) ≤ 2 ^ 64 := Nat.pow_le_pow_right (by omega) hn
  rw [Nat.mul_add, Nat.mul_one] at this
  have : (2 : Nat) ^ 64 = 18446744073709551616 := rfl
  omega
 rw [Int.emod_eq_of_lt (by omega) (by omega)]
theorem Qqt (b : UInt8) : IntKind.u64.wrap ((b.toNat : Nat) : Int) = ((b.toNat : Nat) : Int) := by
 have := b.toNat_lt
 simp only [IntKind.wrap, IntKind.bits, IntKind.signed]
 simp
 omega
theorem Qsu (N : Nat) (b0 b1 b2 b3 b4 b5 b6 b7 : UInt8) (r : List UInt8) : Qs N (b0 :: b1 :: b2 :: b3 :: b4 :: b5 :: b6 :: b7 :: r) = some (Jk [b0, b1, b2, b3, b4, b5, b6, b7] : Nat) := by
 have l0 := b0.toNat_lt; have l1 := b1.toNat_lt; have l2 := b2.toNat_lt; have l3 := b3.toNat_lt
 have l4 := b4.toNat_lt; have l5 := b5.toNat_lt; have l6 := b6.toNat_lt; have l7 := b7.toNat_lt
 show some _ = some _
 simp only [orI, Gb, Qqt]
 have t8 : Int.toNat 8 = 8 := rfl
 have t16 : Int.toNat 16 = 16 := rfl
 have t24 : Int.toNat 24 = 24 := rfl
 have t32 : Int.toNat 32 = 32 := rfl
 have t40 : Int.toNat 40 = 40 := rfl
 have t48 : Int.toNat 48 = 48 := rfl
 have t56 : Int.toNat 56 = 56 := rfl
 rw [t8, t16, t24, t32, t40, t48, t56]
 rw [Qak b0.toNat b1.toNat 8 8 l0 l1 (by omega)]
 rw [Qak _ b2.toNat 16 8 (by omega) l2 (by omega)]
 rw [Qak _ b3.toNat 24 8 (by omega) l3 (by omega)]
 rw [Qak _ b4.toNat 32 8 (by omega) l4 (by omega)]
 rw [Qak _ b5.toNat 40 8 (by omega) l5 (by omega)]
 rw [Qak _ b6.toNat 48 8 (by omega) l6 (by omega)]
 rw [Qak _ b7.toNat 56 8 (by omega) l7 (by omega)]
 simp only [Jk, Option.some.injEq]
 omega
theorem Q25 (N : Nat) (s : List UInt8) (h : 8 ≤ s.length) : Qs N s = some ((Jk (s.take 8) : Nat) : Int) := by
 match s, h with
 | b0 :: b1 :: b2 :: b3 :: b4 :: b5 :: b6 :: b7 :: r, _ => exact Qsu N b0 b1 b2 b3 b4 b5 b6 b7 r
theorem Qg4 : ∀ (s : List UInt8) (m : Nat), m = Jk (List.replicate s.length 128) → (Jk s &&& m = 0 ↔ ∀ b ∈ s, b < 128)
 | [], m, h => by subst h; simp [Jk]
 | b :: r, m, h => by
  have ih := Qg4 r _ rfl
  have hb0 : ∀ n, n < 256 → (n &&& 128 = 0 ↔ n < 128) := by decide
  have hb : ∀ c : UInt8, c.toNat &&& 128 = 0 ↔ c < 128 := fun c => (hb0 c.toNat c.toNat_lt).trans Iff.rfl
  rw [List.length_cons, List.replicate_succ, Jk] at h
  generalize Jk (List.replicate r.length 128) = q at h ih
  have e1 : (128 : UInt8).toNat = 128 := rfl
  rw [e1] at h
  have key : ∀ z : Nat, z = 0 ↔ z % 2 ^ 8 = 0 ∧ z / 2 ^ 8 = 0 := fun z => by omega
  have hlt := b.toNat_lt
  rw [Jk, h, key, Nat.and_mod_two_pow, Nat.and_div_two_pow]
  have d1 : (b.toNat + 256 * Jk r) % 2 ^ 8 = b.toNat := by omega
  have d2 : (128 + 256 * q) % 2 ^ 8 = 128 := by omega
  have d3 : (b.toNat + 256 * Jk r) / 2 ^ 8 = Jk r := by omega
  have d4 : (128 + 256 * q) / 2 ^ 8 = q := by omega
  rw [d1, d2, d3, d4, hb, ih]
  simp
theorem Q13 (n : Nat) (h : n < 18446744073709551616) : IntKind.u64.wrap (n : Int) = n := by
 simp only [IntKind.wrap, IntKind.bits, IntKind.signed]
 simp; omega
theorem Q4c (a b : Nat) (ha : a < 18446744073709551616) (hb : b < 18446744073709551616) : Q1d .u64 (a : Int) (b : Int) = ((a &&& b : Nat) : Int) := by
 have hl : a &&& b ≤ a := Nat.and_le_left
 have h64 : IntKind.u64.bits = 64 := rfl
 have p64 : (2 : Nat) ^ 64 = 18446744073709551616 := rfl
 simp only [Q1d]
 rw [h64, BitVec.ofInt_natCast, BitVec.ofInt_natCast, BitVec.toNat_and, BitVec.toNat_ofNat, BitVec.toNat_ofNat, Nat.mod_eq_of_lt (by omega), Nat.mod_eq_of_lt (by omega), Q13 _ (by omega)]
theorem Qcc (a b : Nat) (ha : a < 18446744073709551616) (hb : b < 18446744073709551616) : orI .u64 (a : Int) (b : Int) = ((a ||| b : Nat) : Int) ∧ (a ||| b) < 18446744073709551616 := by
 have h64 : IntKind.u64.bits = 64 := rfl
 have p64 : (2 : Nat) ^ 64 = 18446744073709551616 := rfl
 have hl : a ||| b < 2 ^ 64 := Nat.or_lt_two_pow (by omega) (by omega)
 simp only [orI]
 rw [h64, BitVec.ofInt_natCast, BitVec.ofInt_natCast, BitVec.toNat_or, BitVec.toNat_ofNat, BitVec.toNat_ofNat, Nat.mod_eq_of_lt (by omega), Nat.mod_eq_of_lt (by omega), Q13 _ (by omega)]
 exact ⟨rfl, by omega⟩
theorem Qe6 (a b m : Nat) : (a ||| b) &&& m = 0 ↔ a &&& m = 0 ∧ b &&& m = 0 := by
 rw [Nat.and_or_distrib_right]
 constructor
 ·intro h
  have h1 : a &&& m ≤ (a &&& m) ||| (b &&& m) := Nat.left_le_or
  have h2 : b &&& m ≤ (a &&& m) ||| (b &&& m) := Nat.right_le_or
  omega
 ·rintro ⟨h1, h2⟩; rw [h1, h2]; rfl
theorem Q77 (s : List UInt8) : Jk (s.take 8) < 18446744073709551616 := by
 have := Qkl (s.take 8) 8 (by simp; omega)
 simpa using this
def M8 : Nat := 9259542123273814144
theorem Qwp (s : List UInt8) (h : 8 ≤ s.length) : Jk (s.take 8) &&& M8 = 0 ↔ ∀ b ∈ s.take 8, b < 128 := Qg4 _ _ (by rw [List.length_take, Nat.min_eq_left h]; rfl)
theorem Qtj (s : List UInt8) (h : 8 ≤ s.length) (hm : Jk (s.take 8) &&& M8 = 0) : Ud s = Ud (s.drop 8) := Q6v 8 s ((Qwp s h).1 hm)
theorem Qw9 (s : List UInt8) : (Q1d .u64 ((Jk (s.take 8) : Nat) : Int) 9259542123273814144 = 0) = (Jk (s.take 8) &&& M8 = 0) := by
 have h1 := Q77 s
 rw [show (9259542123273814144 : Int) = ((M8 : Nat) : Int) from rfl, Q4c _ _ h1 (by decide)]
 apply propext; omega
theorem Qw5 (s t : List UInt8) : (Q1d .u64 (orI .u64 ((Jk (s.take 8) : Nat) : Int) ((Jk (t.take 8) : Nat) : Int)) 9259542123273814144 = 0) = (Jk (s.take 8) &&& M8 = 0 ∧ Jk (t.take 8) &&& M8 = 0) := by
 obtain ⟨h1, h2⟩ := Qcc _ _ (Q77 s) (Q77 t)
 rw [h1, show (9259542123273814144 : Int) = ((M8 : Nat) : Int) from rfl, Q4c _ _ h2 (by decide)]
 rw [← Qe6]
 apply propext; omega
theorem Qw7 (s t u v : List UInt8) : (Q1d .u64 (orI .u64 (orI .u64 ((Jk (s.take 8) : Nat) : Int) ((Jk (t.take 8) : Nat) : Int)) (orI .u64 ((Jk (u.take 8) : Nat) : Int) ((Jk (v.take 8) : Nat) : Int))) 9259542123273814144 = 0) =
  (Jk (s.take 8) &&& M8 = 0 ∧ Jk (t.take 8) &&& M8 = 0 ∧ Jk (u.take 8) &&& M8 = 0 ∧ Jk (v.take 8) &&& M8 = 0) := by
 obtain ⟨h1, h2⟩ := Qcc _ _ (Q77 s) (Q77 t)
 obtain ⟨h3, h4⟩ := Qcc _ _ (Q77 u) (Q77 v)
 obtain ⟨h5, h6⟩ := Qcc _ _ h2 h4
 rw [h1, h3, h5, show (9259542123273814144 : Int) = ((M8 : Nat) : Int) from rfl, Q4c _ _ h6 (by decide)]
 rw [show (Jk (s.take 8) &&& M8 = 0 ∧ Jk (t.take 8) &&& M8 = 0 ∧ Jk (u.take 8) &&& M8 = 0 ∧ Jk (v.take 8) &&& M8 = 0) = ((Jk (s.take 8) ||| Jk (t.take 8) ||| (Jk (u.take 8) ||| Jk (v.take 8))) &&& M8 = 0) by
  rw [Qe6, Qe6, Qe6]; apply propext; simp only [and_assoc]]
 apply propext; omega
theorem Quy (N : Nat) (k0 : List UInt8 → Option Bool) : ∀ (n : Nat) (s : List UInt8), s.length < n → (∀ t, t.length ≤ s.length → k0 t = some (Ud t)) → Zs N k0 n s = some (Ud s)
 | 0, s, h, _ => by omega
 | n + 1, s, h, hk => by
  simp only [Zs, Q6, Q37, Wb, List.take_length, Nat.ble_eq, Bool.and_eq_true, Nat.le_refl, and_true]
  by_cases hl : (s.length : Int) > 32
  ·rw [if_pos hl, Q25 N s (by omega)]
   simp only [Option.bind_some]
   rw [if_pos (by omega), Q25 N _ (by rw [List.length_drop]; omega)]
   simp only [Option.bind_some]
   rw [if_pos (by omega), Q25 N _ (by rw [List.length_drop]; omega)]
   simp only [Option.bind_some]
   rw [if_pos (by omega), Q25 N _ (by rw [List.length_drop]; omega)]
   simp only [Option.bind_some, Qw7]
   split
   ·rename_i hm
    obtain ⟨m1, m2, m3, m4⟩ := hm
    rw [if_pos (by omega), Quy N k0 n (s.drop 32) (by rw [List.length_drop]; omega) (fun t ht => hk t (by rw [List.length_drop] at ht; omega))]
    have e1 := Qtj s (by omega) m1
    have e2 := Qtj (s.drop 8) (by rw [List.length_drop]; omega) m2
    rw [List.drop_drop] at e2
    have e3 := Qtj (s.drop 16) (by rw [List.length_drop]; omega) m3
    rw [List.drop_drop] at e3
    have e4 := Qtj (s.drop 24) (by rw [List.length_drop]; omega) m4
    rw [List.drop_drop] at e4
    rw [e1, e2, e3, e4]
   ·exact hk s (Nat.le_refl _)
  ·rw [if_neg hl]; exact hk s (Nat.le_refl _)
def Qfh (n : Nat) : Nat := Go.Pinned.utf8FirstZ.getD n 0
theorem Qt8 (n : Nat) (h : n < 256) : idx gtab0 (n : Int) = some (Qfh n : Int) := by
 have hl : Go.Pinned.utf8FirstZ.length = 256 := by rfl
 rw [Yb, gtab0, List.getElem?_map, Qfh, List.getD_eq_getElem?_getD, List.getElem?_eq_getElem (by omega)]
 rfl
def Qxv (n : Nat) : Bool := (Qfh n == 241 && (decide (n < 194) || decide (244 < n))) || (Qfh n == 2 && decide (194 ≤ n) && decide (n ≤ 223)) || (Qfh n == 19 && n == 224) || (Qfh n == 3 && decide (225 ≤ n) && decide (n ≤ 239) && n != 237) || (Qfh n == 35 && n == 237) ||
  (Qfh n == 52 && n == 240) || (Qfh n == 4 && decide (241 ≤ n) && decide (n ≤ 243)) || (Qfh n == 68 && n == 244)
set_option maxRecDepth 100000 in
theorem Qth : ((List.range 256).all fun n => decide (n < 128) || Qxv n) = true := by decide +kernel
theorem cls (n : Nat) (h : n < 256) (h2 : 128 ≤ n) : (Qfh n = 241 ∧ (n < 194 ∨ 244 < n)) ∨ (Qfh n = 2 ∧ 194 ≤ n ∧ n ≤ 223) ∨ (Qfh n = 19 ∧ n = 224) ∨ (Qfh n = 3 ∧ 225 ≤ n ∧ n ≤ 239 ∧ n ≠ 237) ∨ (Qfh n = 35 ∧ n = 237) ∨
  (Qfh n = 52 ∧ n = 240) ∨ (Qfh n = 4 ∧ 241 ≤ n ∧ n ≤ 243) ∨ (Qfh n = 68 ∧ n = 244) := by
 have := List.all_eq_true.1 Qth n (by simpa using h)
 simp only [Bool.or_eq_true, decide_eq_true_eq] at this
 rcases this with h3 | h3
 ·omega
 ·simp only [Qxv, Bool.or_eq_true, Bool.and_eq_true, beq_iff_eq, decide_eq_true_eq, bne_iff_ne, ne_eq] at h3
  rcases h3 with ((((((h | h) | h) | h) | h) | h) | h) | h
  ·exact .inl h
  ·exact .inr (.inl ⟨h.1.1, h.1.2, h.2⟩)
  ·exact .inr (.inr (.inl h))
  ·exact .inr (.inr (.inr (.inl ⟨h.1.1.1, h.1.1.2, h.1.2, h.2⟩)))
  ·exact .inr (.inr (.inr (.inr (.inl h))))
  ·exact .inr (.inr (.inr (.inr (.inr (.inl h)))))
  ·exact .inr (.inr (.inr (.inr (.inr (.inr (.inl ⟨h.1.1, h.1.2, h.2⟩))))))
  ·exact .inr (.inr (.inr (.inr (.inr (.inr (.inr h))))))
theorem Qvn (N n : Nat) (c : UInt8) (r : List UInt8) (hc : c.toNat < 128) (_hn : r.length < n) (hN : r.length < N) (ih : ∀ t, t.length ≤ r.length → Q8 N n t = some (Ud t)) :
  Q8 N (n + 1) (c :: r) = some (Ud (c :: r)) := by
 have hstep : Ud (c :: r) = Ud r := Q6v 1 (c :: r) (fun b hb => by simp at hb; subst hb; exact hc)
 rw [hstep]
 simp only [Q8, Q6, Q37, Wb, Xo, List.take_length, Nat.ble_eq, Bool.and_eq_true, Nat.le_refl, and_true]
 rw [if_pos (by simp only [List.length_cons]; omega), show idx (c :: r) 0 = some c from rfl]
 simp only [Option.bind_some]
 rw [if_pos (by omega), if_pos (by simp)]
 simp only [List.drop_one, List.tail_cons]
 by_cases h8 : (r.length : Int) > 8
 ·rw [if_pos h8, Q25 N r (by omega)]
  simp only [Option.bind_some, Qw9]
  split
  ·rename_i hm
   rw [Qtj r (by omega) hm, if_pos (by omega)]
   split
   ·rename_i h16
    rw [Q25 N _ (by omega)]
    simp only [Option.bind_some]
    rw [if_pos (by omega), Q25 N _ (by simp only [List.length_drop] at h16 ⊢; omega)]
    simp only [Option.bind_some, Qw5]
    split
    ·rename_i hm2
     rw [if_pos (by omega), Quy N _ N _ (by simp only [List.length_drop]; omega) (fun t ht => ih t (by simp only [List.length_drop] at ht; omega))]
     rw [Qtj (r.drop 8) (by simp only [List.length_drop] at h16 ⊢; omega) hm2.1, Qtj ((r.drop 8).drop 8) (by simp only [List.length_drop] at h16 ⊢; omega) hm2.2, List.drop_drop (l := r.drop 8)]
    ·exact ih _ (by simp only [List.length_drop]; omega)
   ·exact ih _ (by simp only [List.length_drop]; omega)
  ·exact ih _ (Nat.le_refl _)
 ·rw [if_neg h8]; exact ih _ (Nat.le_refl _)
end
end Go.Av
namespace Go.Av
noncomputable section
open Go.Proofs
set_option maxRecDepth 100000
theorem Ql5 {s : List UInt8} {i lo hi : Nat} {b : UInt8} (h : s[i]? = some b) (h1 : lo ≤ b.toNat) (h2 : b.toNat ≤ hi) : inB s i lo hi = true := by simp [inB, h, h1, h2]
theorem Qa1 {s : List UInt8} {i lo hi : Nat} {b : UInt8} (h : s[i]? = some b) (h1 : ¬ (lo ≤ b.toNat ∧ b.toNat ≤ hi)) : inB s i lo hi = false := by simp only [inB, h, decide_eq_false h1]
theorem Qkv {s : List UInt8} {i lo hi : Nat} (h : s[i]? = none) : inB s i lo hi = false := by simp [inB, h]
theorem Qu2 {X : List UInt8 → Option Bool} (c : UInt8) (r : List UInt8) (lo hi : Int) (lo' hi' : Nat) (e1 : lo = lo') (e2 : hi = hi') (hX : ∀ t, t.length ≤ r.length → X t = some (Ud t))
  (hcp : cpN (c :: r) = if inB (c :: r) 1 lo' hi' then 2 else 0) :
  (if ((c :: r).length : Int) < 2 then some false else (idx (c :: r) 1).bind fun b => if (b.toNat : Int) < lo then some false else (idx (c :: r) 1).bind fun b2 => if hi < (b2.toNat : Int) then some false else
   if 2 ≤ (c :: r).length then X ((c :: r).drop 2) else none) = some (Ud (c :: r)) := by
 subst e1 e2
 have bad : cpN (c :: r) = 0 → some false = some (Ud (c :: r)) := fun h => by rw [Q5g _ (by simp) h]
 match r, hX, hcp, bad with
 | [], hX, hcp, bad =>
  rw [if_pos (by simp)]
  exact bad (by rw [hcp, Qkv (by simp)]; rfl)
 | d :: t, hX, hcp, bad =>
  rw [if_neg (by simp only [List.length_cons]; omega), show idx (c :: d :: t) 1 = some d from rfl]
  simp only [Option.bind_some]
  by_cases h1 : (d.toNat : Int) < lo'
  ·rw [if_pos h1]; exact bad (by rw [hcp, Qa1 (b := d) rfl (by omega)]; rfl)
  rw [if_neg h1]
  by_cases h2 : (hi' : Int) < d.toNat
  ·rw [if_pos h2]; exact bad (by rw [hcp, Qa1 (b := d) rfl (by omega)]; rfl)
  rw [if_neg h2, if_pos (by simp)]
  have hc : cpN (c :: d :: t) = 2 := by rw [hcp, Ql5 (b := d) rfl (by omega) (by omega)]; rfl
  rw [Q3n _ 1 hc]
  exact hX _ (by simp)
theorem Qhx {X : List UInt8 → Option Bool} (c : UInt8) (r : List UInt8) (lo hi : Int) (lo' hi' : Nat) (e1 : lo = lo') (e2 : hi = hi') (hX : ∀ t, t.length ≤ r.length → X t = some (Ud t))
  (hcp : cpN (c :: r) = if inB (c :: r) 1 lo' hi' && inB (c :: r) 2 128 191 then 3 else 0) :
  (if ((c :: r).length : Int) < 3 then some false else (idx (c :: r) 1).bind fun b => if (b.toNat : Int) < lo then some false else (idx (c :: r) 1).bind fun b2 => if hi < (b2.toNat : Int) then some false else
   (idx (c :: r) 2).bind fun b3 => if (b3.toNat : Int) < 128 then some false else (idx (c :: r) 2).bind fun b4 => if 191 < (b4.toNat : Int) then some false else
   if 3 ≤ (c :: r).length then X ((c :: r).drop 3) else none) = some (Ud (c :: r)) := by
 subst e1 e2
 have bad : cpN (c :: r) = 0 → some false = some (Ud (c :: r)) := fun h => by rw [Q5g _ (by simp) h]
 match r, hX, hcp, bad with
 | [], hX, hcp, bad =>
  rw [if_pos (by simp)]
  exact bad (by rw [hcp, Qkv (by simp)]; rfl)
 | [d], hX, hcp, bad =>
  rw [if_pos (by simp)]
  exact bad (by rw [hcp, Qkv (i := 2) (by simp)]; simp)
 | d :: e :: t, hX, hcp, bad =>
  rw [if_neg (by simp only [List.length_cons]; omega), show idx (c :: d :: e :: t) 1 = some d from rfl, show idx (c :: d :: e :: t) 2 = some e from rfl]
  simp only [Option.bind_some]
  by_cases h1 : (d.toNat : Int) < lo'
  ·rw [if_pos h1]; exact bad (by rw [hcp, Qa1 (b := d) (i := 1) rfl (by omega)]; rfl)
  rw [if_neg h1]
  by_cases h2 : (hi' : Int) < d.toNat
  ·rw [if_pos h2]; exact bad (by rw [hcp, Qa1 (b := d) (i := 1) rfl (by omega)]; rfl)
  rw [if_neg h2]
  by_cases h3 : (e.toNat : Int) < 128
  ·rw [if_pos h3]; exact bad (by rw [hcp, Qa1 (b := e) (i := 2) rfl (by omega)]; simp)
  rw [if_neg h3]
  by_cases h4 : (191 : Int) < e.toNat
  ·rw [if_pos h4]; exact bad (by rw [hcp, Qa1 (b := e) (i := 2) rfl (by omega)]; simp)
  rw [if_neg h4, if_pos (by simp)]
  have hc : cpN (c :: d :: e :: t) = 3 := by rw [hcp, Ql5 (b := d) (i := 1) rfl (by omega) (by omega), Ql5 (b := e) (i := 2) rfl (by omega) (by omega)]; rfl
  rw [Q3n _ 2 hc]
  exact hX _ (by simp; omega)
theorem Qi2 {X : List UInt8 → Option Bool} (c : UInt8) (r : List UInt8) (lo hi : Int) (lo' hi' : Nat) (e1 : lo = lo') (e2 : hi = hi') (hX : ∀ t, t.length ≤ r.length → X t = some (Ud t))
  (hcp : cpN (c :: r) = if inB (c :: r) 1 lo' hi' && inB (c :: r) 2 128 191 && inB (c :: r) 3 128 191 then 4 else 0) :
  (if ((c :: r).length : Int) < 4 then some false else (idx (c :: r) 1).bind fun b => if (b.toNat : Int) < lo then some false else (idx (c :: r) 1).bind fun b2 => if hi < (b2.toNat : Int) then some false else
   (idx (c :: r) 2).bind fun b3 => if (b3.toNat : Int) < 128 then some false else (idx (c :: r) 2).bind fun b4 => if 191 < (b4.toNat : Int) then some false else
   (idx (c :: r) 3).bind fun b5 => if (b5.toNat : Int) < 128 then some false else (idx (c :: r) 3).bind fun b6 => if 191 < (b6.toNat : Int) then some false else
   if 4 ≤ (c :: r).length then X ((c :: r).drop 4) else none) = some (Ud (c :: r)) := by
 subst e1 e2
 have bad : cpN (c :: r) = 0 → some false = some (Ud (c :: r)) := fun h => by rw [Q5g _ (by simp) h]
 match r, hX, hcp, bad with
 | [], hX, hcp, bad =>
  rw [if_pos (by simp)]
  exact bad (by rw [hcp, Qkv (by simp)]; rfl)
 | [d], hX, hcp, bad =>
  rw [if_pos (by simp)]
  exact bad (by rw [hcp, Qkv (i := 2) (by simp)]; simp)
 | [d, e], hX, hcp, bad =>
  rw [if_pos (by simp)]
  exact bad (by rw [hcp, Qkv (i := 3) (by simp)]; simp)
 | d :: e :: f :: t, hX, hcp, bad =>
  rw [if_neg (by simp only [List.length_cons]; omega), show idx (c :: d :: e :: f :: t) 1 = some d from rfl, show idx (c :: d :: e :: f :: t) 2 = some e from rfl, show idx (c :: d :: e :: f :: t) 3 = some f from rfl]
  simp only [Option.bind_some]
  by_cases h1 : (d.toNat : Int) < lo'
  ·rw [if_pos h1]; exact bad (by rw [hcp, Qa1 (b := d) (i := 1) rfl (by omega)]; rfl)
  rw [if_neg h1]
  by_cases h2 : (hi' : Int) < d.toNat
  ·rw [if_pos h2]; exact bad (by rw [hcp, Qa1 (b := d) (i := 1) rfl (by omega)]; rfl)
  rw [if_neg h2]
  by_cases h3 : (e.toNat : Int) < 128
  ·rw [if_pos h3]; exact bad (by rw [hcp, Qa1 (b := e) (i := 2) rfl (by omega)]; simp)
  rw [if_neg h3]
  by_cases h4 : (191 : Int) < e.toNat
  ·rw [if_pos h4]; exact bad (by rw [hcp, Qa1 (b := e) (i := 2) rfl (by omega)]; simp)
  rw [if_neg h4]
  by_cases h5 : (f.toNat : Int) < 128
  ·rw [if_pos h5]; exact bad (by rw [hcp, Qa1 (b := f) (i := 3) rfl (by omega)]; simp)
  rw [if_neg h5]
  by_cases h6 : (191 : Int) < f.toNat
  ·rw [if_pos h6]; exact bad (by rw [hcp, Qa1 (b := f) (i := 3) rfl (by omega)]; simp)
  rw [if_neg h6, if_pos (by simp)]
  have hc : cpN (c :: d :: e :: f :: t) = 4 := by rw [hcp, Ql5 (b := d) (i := 1) rfl (by omega) (by omega), Ql5 (b := e) (i := 2) rfl (by omega) (by omega), Ql5 (b := f) (i := 3) rfl (by omega) (by omega)]; rfl
  rw [Q3n _ 3 hc]
  exact hX _ (by simp; omega)
theorem Qv6 : ∀ (N n : Nat) (s : List UInt8), s.length < n → s.length < N → Q8 N n s = some (Ud s)
 | N, 0, s, h, _ => by omega
 | N, n + 1, [], h1, h2 => by simp [Q8, Q6, Qmh]
 | N, n + 1, c :: r, h1, h2 => by
  have h1 : r.length < n := by simp at h1; omega
  have h2 : r.length < N := by simp at h2; omega
  have ih : ∀ t : List UInt8, t.length ≤ r.length → Q8 N n t = some (Ud t) := fun t ht => Qv6 N n t (by omega) (by omega)
  by_cases hc : c.toNat < 128
  ·exact Qvn N n c r hc h1 h2 ih
  have hlt := c.toNat_lt
  simp only [Q8, Q6, Q37, Wb, Xo, List.take_length, Nat.ble_eq, Bool.and_eq_true, Nat.le_refl, and_true]
  rw [if_pos (by simp only [List.length_cons]; omega), show idx (c :: r) 0 = some c from rfl]
  simp only [Option.bind_some]
  rw [if_neg (by omega), Qt8 _ hlt]
  simp only [Option.bind_some]
  rcases cls c.toNat hlt (by omega) with ⟨e, h⟩ | ⟨e, h⟩ | ⟨e, h⟩ | ⟨e, h⟩ | ⟨e, h⟩ | ⟨e, h⟩ | ⟨e, h⟩ | ⟨e, h⟩
  ·rw [e, show (idx gtab1 (Q2s .u8 ((241 : Nat) : Int) 4)) = some (0, 0) from by decide]
   simp only [Option.bind_some]
   rw [if_neg (by decide), if_neg (by decide), if_neg (by decide), Q5g _ (by simp) (by simp only [cpN]; rw [if_neg hc, if_neg (by omega), if_neg (by omega), if_neg (by omega), if_neg (by omega), if_neg (by omega), if_neg (by omega), if_neg (by omega)])]
  ·rw [e, show (idx gtab1 (Q2s .u8 ((2 : Nat) : Int) 4)) = some (128, 191) from by decide]
   simp only [Option.bind_some]
   rw [if_pos (by decide)]
   exact Qu2 c r 128 191 128 191 rfl rfl ih (by simp only [cpN]; rw [if_neg hc, if_pos h])
  ·rw [e, show (idx gtab1 (Q2s .u8 ((19 : Nat) : Int) 4)) = some (160, 191) from by decide]
   simp only [Option.bind_some]
   rw [if_neg (by decide), if_pos (by decide)]
   exact Qhx c r 160 191 160 191 rfl rfl ih (by simp only [cpN]; rw [if_neg hc, if_neg (by omega), if_pos h])
  ·rw [e, show (idx gtab1 (Q2s .u8 ((3 : Nat) : Int) 4)) = some (128, 191) from by decide]
   simp only [Option.bind_some]
   rw [if_neg (by decide), if_pos (by decide)]
   exact Qhx c r 128 191 128 191 rfl rfl ih (by simp only [cpN]; rw [if_neg hc, if_neg (by omega), if_neg (by omega), if_neg (by omega), if_pos (by omega)])
  ·rw [e, show (idx gtab1 (Q2s .u8 ((35 : Nat) : Int) 4)) = some (128, 159) from by decide]
   simp only [Option.bind_some]
   rw [if_neg (by decide), if_pos (by decide)]
   exact Qhx c r 128 159 128 159 rfl rfl ih (by simp only [cpN]; rw [if_neg hc, if_neg (by omega), if_neg (by omega), if_pos h])
  ·rw [e, show (idx gtab1 (Q2s .u8 ((52 : Nat) : Int) 4)) = some (144, 191) from by decide]
   simp only [Option.bind_some]
   rw [if_neg (by decide), if_neg (by decide), if_pos (by decide)]
   exact Qi2 c r 144 191 144 191 rfl rfl ih (by simp only [cpN]; rw [if_neg hc, if_neg (by omega), if_neg (by omega), if_neg (by omega), if_neg (by omega), if_pos h])
  ·rw [e, show (idx gtab1 (Q2s .u8 ((4 : Nat) : Int) 4)) = some (128, 191) from by decide]
   simp only [Option.bind_some]
   rw [if_neg (by decide), if_neg (by decide), if_pos (by decide)]
   exact Qi2 c r 128 191 128 191 rfl rfl ih (by simp only [cpN]; rw [if_neg hc, if_neg (by omega), if_neg (by omega), if_neg (by omega), if_neg (by omega), if_neg (by omega), if_pos h])
  ·rw [e, show (idx gtab1 (Q2s .u8 ((68 : Nat) : Int) 4)) = some (128, 143) from by decide]
   simp only [Option.bind_some]
   rw [if_neg (by decide), if_neg (by decide), if_pos (by decide)]
   exact Qi2 c r 128 143 128 143 rfl rfl ih (by simp only [cpN]; rw [if_neg hc, if_neg (by omega), if_neg (by omega), if_neg (by omega), if_neg (by omega), if_neg (by omega), if_neg (by omega), if_pos h])
theorem Qct (N : Nat) (s : List UInt8) (h : s.length < N) : V5 N s = some (Ud s) := Qv6 N N s h h
end
end Go.Av
namespace Go.Av
noncomputable section
open Go.Proofs
set_option maxRecDepth 100000
theorem Qao (s : List UInt8) (i : Nat) (hi : i < s.length) (h : s[i].toNat < 128) : Q55 (s.drop i) = Q55 (s.drop (i + 1)) := by
 rw [List.drop_eq_getElem_cons hi]
 simp only [Q55, List.all_cons, decide_eq_true h, Bool.true_and]
theorem Qmn (N : Nat) (v : Q0) (hb : v.Text.length < 4611686018427387904) : ∀ (n i : Nat), v.Text.length - i < n → i ≤ v.Text.length →
  Uk N v n (i : Int) = some (if Q55 (v.Text.drop i) then 0 else 6)
 | 0, i, h, _ => by omega
 | n + 1, i, h, hi => by
  simp only [Uk, Q6, Xo, Qay]
  by_cases h1 : i < v.Text.length
  ·rw [if_pos (by omega), Yb, List.getElem?_eq_getElem h1]
   simp only [Option.bind_some]
   by_cases h2 : v.Text[i].toNat < 128
   ·rw [if_neg (by omega), Qq _ (by omega), Qao _ _ h1 h2]
    exact_mod_cast Qmn N v hb n (i + 1) (by omega) (by omega)
   ·rw [if_pos (by omega)]
    have : Q55 (v.Text.drop i) = false := by
     rw [List.drop_eq_getElem_cons h1]
     simp only [Q55, List.all_cons, decide_eq_false h2, Bool.false_and]
    simp [this]
  ·rw [if_neg (by omega), List.drop_of_length_le (by omega)]
   rfl
theorem Qu9 (N : Nat) (v : Q0) (h : v.Text.length < N) (hb : v.Text.length < 4611686018427387904) : Wu N v = some (Qg7 v.Kind v.Text) := by
 simp only [Wu, Q6, Wb, Qg7]
 split
 ·rw [Qct N _ h]
  simp only [Option.bind_some]
  cases Ud v.Text <;> rfl
 ·split
  ·have := Qmn N v hb N 0 (by omega) (by omega)
   simpa using this
  ·rfl
theorem Qtq (v : Q0) : (((Q0.rows v.Items).length : Int) ≠ 0) = (v.Items ≠ []) := by
 rw [Z9]
 apply propext
 cases v.Items <;> simp; omega
theorem Qme (k : Int) : 0 ≤ (Ji k).1 ∧ (Ji k).1 ≤ 64 ∧ ((Ji k).2 = true → 1 ≤ (Ji k).1) := by
 unfold Ji
 repeat' split
 all_goals simp
def okU (n : Int) : Prop := 0 ≤ n ∧ n < 18446744073709551616
theorem Q4n (N : Nat) (v : Q0) (hn : okU v.N') (h : v.Text.length < N) (hb : v.Text.length < 4611686018427387904) : X5 N v = some (V6 v) := by
 obtain ⟨b1, b2, b3⟩ := Qme v.Kind
 simp only [X5, Q6, Wb, Xo, Q37, Ub, Gg, Qij, Option.bind_some, Qbv N _ _ _ hn.1 hn.2 b1 b2 b3, Qhm N _ hn.1, Qlx, Qu9 N v h hb, Qtq]
 unfold V6
 by_cases h1 : v.Kind < 1
 ·rw [if_pos h1, if_pos (.inl h1)]
 rw [if_neg h1]
 by_cases h2 : v.Kind > 21
 ·rw [if_pos h2, if_pos (.inr h2)]
 rw [if_neg h2, if_neg (show ¬ (v.Kind < 1 ∨ 21 < v.Kind) by omega)]
 unfold Q7b
 generalize Q0a v.N' (Ji v.Kind).1 (Ji v.Kind).2 = fb
 cases fb
 ·simp
 simp only [Bool.not_true, Bool.false_eq_true, if_false, Bool.true_and]
 by_cases h16 : v.Kind = 16
 ·rw [if_pos h16]
  have e1 : (v.Kind != 16) = false := by simp [h16]
  have e2 : Q1p v.Kind = false := by rw [h16]; rfl
  rw [e1, e2]
  simp only [Bool.false_or, Bool.not_false, if_true]
  cases Qcv v.N' with
  | false => simp
  | true =>
   simp only [Bool.not_true, Bool.false_eq_true, if_false]
   by_cases hi : v.Items = []
   ·simp only [hi, ne_eq, not_true_eq_false, if_false]
    simp only [Bool.true_eq_false, or_self, if_false]
    by_cases ht : v.Text = [] <;> simp [ht]
   ·simp [hi]
 ·rw [if_neg h16]
  have e1 : (v.Kind != 16) = true := by simp [h16]
  rw [e1]
  simp only [Bool.true_or, Bool.true_eq_false, false_or]
  have e3 : ((v.Text.length : Int) ≠ 16) = (v.Text.length ≠ 16) := by apply propext; omega
  have e4 : ((v.Text.length : Int) > 1048576) = (1048576 < v.Text.length) := by apply propext; omega
  simp only [e3, e4]
  by_cases hi : v.Items = []
  ·simp only [hi, ne_eq, not_true_eq_false, if_false]
   cases Q1p v.Kind with
   | false => by_cases ht : v.Text = [] <;> simp [ht]
   | true =>
    simp only [Bool.not_true, Bool.false_eq_true, if_false, Bool.true_eq_false]
    by_cases h15 : v.Kind = 15
    ·simp only [h15, if_true, true_or, true_and]
     by_cases hl : v.Text.length = 16 <;> simp [hl]
    ·by_cases h18 : v.Kind = 18
     ·simp only [h18, if_true, or_true, true_and]
      by_cases hl : v.Text.length = 16 <;> simp [hl]
     ·simp only [h15, h18, if_false, or_self, false_and]
      split <;> rfl
  ·simp [hi]
theorem Qsh (N : Nat) (c : Qf) (v : Q0) (hn : okU v.N') : Gt N c v = some (Q58 c v) := by
 simp only [Gt, Q6, Wb, Q58, Qij, Option.bind_some]
 split
 ·rfl
 split
 ·split
  ·rename_i h; simp [h]
  ·rename_i h
   simp only [h, false_or, Option.some.injEq, Q5, decide_eq_decide]
   omega
 split
 ·rfl
 split
 ·rw [Qbv N _ _ _ hn.1 hn.2 (by omega) (by omega) (by intro _; omega)]; rfl
 ·rfl
theorem Qo5 (N : Nat) (code : Int) (v : Q0) (hn : okU v.N') (h : v.Text.length < N) (hb : v.Text.length < 4611686018427387904) : Jw N code v = some (Q1q code v) := by
 simp only [Jw, Z7, Q6, Wb, Option.bind_some, Q4n N v hn h hb, Qsh N _ v hn, Q1q]
 cases ofB code
 ·simp
 simp only [if_true, Bool.true_and]
 by_cases h1 : (ofS code).Kind = v.Kind
 ·rw [if_pos h1, decide_eq_true h1]
  by_cases h2 : V6 v = 0
  ·rw [if_pos h2, decide_eq_true h2]; simp
  ·rw [if_neg h2, decide_eq_false h2]; simp
 ·rw [if_neg h1, decide_eq_false h1]; simp
theorem Qdy (k : Int) : (Ux k).length ≤ 4 := by
 by_cases h : k < 1 ∨ 25 < k
 ·rw [Q6a k h]; simp
 ·have hall : ((List.range 26).all fun k => decide ((Ux k).length ≤ 4)) = true := by decide +kernel
  have := List.all_eq_true.1 hall k.toNat (by simp; omega)
  rw [show ((k.toNat : Nat) : Int) = k by omega] at this
  simpa using this
end
end Go.Av
namespace Go.Av
noncomputable section
open Go.Proofs
set_option maxRecDepth 100000
theorem Q95 : ∀ (w n : Nat), Q1a n (w + 1) = UInt8.ofNat (n / 256 ^ w % 256) :: Q1a n w
 | 0, n => by simp [Q1a]
 | w + 1, n => by
  rw [Q1a, Q95 w (n / 256), Q1a, List.cons_append, Nat.div_div_eq_div_mul, Nat.pow_succ, Nat.mul_comm 256]
def Qtg (n : Nat) : Nat → List Int
 | 0 => []
 | w + 1 => ((n / 256 ^ w % 256 : Nat) : Int) :: Qtg n w
theorem Qj0 (n : Nat) : ∀ w, (Qtg n w).map (fun n => UInt8.ofNat n.toNat) = Q1a n w
 | 0 => rfl
 | w + 1 => by rw [Qtg, List.map_cons, Qj0 n w, Q95]; rfl
theorem Qtw (m : Nat) (x : Int) (t : List Int) : (List.replicate (m + 1) (0 : Int) ++ t).set m x = List.replicate m 0 ++ (x :: t) := by
 rw [List.replicate_succ', List.append_assoc, List.set_append_right _ _ (by simp)]
 simp
theorem Qss (x : Int) : IntKind.u8.wrap x = x % 256 := by simp [IntKind.wrap, IntKind.bits, IntKind.signed]
theorem Q8m (x : Int) : IntKind.u64.wrap x = x % 18446744073709551616 := by simp [IntKind.wrap, IntKind.bits, IntKind.signed]
theorem Qro (N n w : Nat) (hn : n < 18446744073709551616) (hw : w ≤ 8) : ∀ (k i : Nat), i ≤ w → w - i < k → J9 N (n : Int) (w : Int) k (i : Int) (List.replicate (w - i) 0 ++ Qtg n i) = some (Q1a n w)
 | 0, i, h, h2 => by omega
 | k + 1, i, h, h2 => by
  have e1 : ifB (decide ((16 : Int) < (w : Int))) (16 : Int) (w : Int) = w := by rw [decide_eq_false (by omega)]; rfl
  simp only [J9, Q6, Xo, e1]
  by_cases hi : i < w
  ·rw [if_pos (by omega), if_pos (by omega)]
   have e2 : IntKind.i64.wrap (8 * (i : Int)) = ((8 * i : Nat) : Int) := by rw [Qq _ (by omega)]; push_cast; rfl
   have e3 : IntKind.u64.wrap ((8 * i : Nat) : Int) = ((8 * i : Nat) : Int) := Q13 _ (by omega)
   have e4 : IntKind.i64.wrap (IntKind.i64.wrap ((w : Int) - 1) - (i : Int)) = ((w - i - 1 : Nat) : Int) := by
    rw [Qq ((w : Int) - 1) (by omega), Qq _ (by omega)]; omega
   rw [e2, e3, e4, if_pos (decide_eq_true (Int.natCast_nonneg _))]
   have hlen : (List.replicate (w - i) (0 : Int) ++ Qtg n i).length ≥ w - i := by simp
   rw [Yb, List.getElem?_eq_getElem (by omega)]
   simp only [Option.bind_some]
   have e5 : IntKind.u8.wrap (Q2s .u64 (n : Int) ((8 * i : Nat) : Int)) = ((n / 256 ^ i % 256 : Nat) : Int) := by
    rw [Qss]
    simp only [Q2s]
    have : min (((8 * i : Nat) : Int).toNat) IntKind.u64.bits = 8 * i := by simp [IntKind.bits]; omega
    rw [this, Int.fdiv_eq_ediv_of_nonneg _ (by have := two_pow_pos (8 * i); omega)]
    have e0 : (2 : Nat) ^ (8 * i) = 256 ^ i := Nat.pow_mul 2 8 i
    have e : ((2 : Int) ^ (8 * i)) = ((256 ^ i : Nat) : Int) := by rw [← e0]; push_cast; rfl
    rw [e]
    push_cast
    rfl
   rw [e5, show Int.toNat ((w - i - 1 : Nat) : Int) = w - i - 1 from rfl, Qq _ (by omega)]
   obtain ⟨m, hm⟩ : ∃ m, w - i = m + 1 := ⟨w - i - 1, by omega⟩
   have h3 := Qro N n w hn hw k (i + 1) (by omega) (by omega)
   rw [show w - (i + 1) = m by omega, Qtg] at h3
   rw [hm, Nat.add_sub_cancel, Qtw]
   exact_mod_cast h3
  ·rw [if_neg (by omega)]
   have : i = w := by omega
   subst this
   rw [Nat.sub_self, List.replicate_zero, List.nil_append, Qj0]
theorem Qis (N n w : Nat) (hn : n < 18446744073709551616) (hw : w ≤ 8) (hN : 10 < N) : Q00 N (n : Int) (w : Int) = some (Q1a n w) := by
 have e1 : ifB (decide ((16 : Int) < (w : Int))) (16 : Int) (w : Int) = w := by rw [decide_eq_false (by omega)]; rfl
 simp only [Q00, Q6, Q74, e1]
 by_cases h0 : (w : Int) ≤ 0
 ·rw [if_pos h0]
  have : w = 0 := by omega
  subst this; rfl
 ·rw [if_neg h0, if_pos (by simp; omega)]
  have := Qro N n w hn hw N 0 (by omega) (by omega)
  simpa [Qtg] using this
theorem Qgv (a b : Nat) (ha : a < 72057594037927936) (hb : b < 256) : orI .u64 (Gb .u64 (a : Int) 8) (IntKind.u64.wrap (b : Int)) = ((a * 256 + b : Nat) : Int) := by
 have e1 : Gb .u64 (a : Int) 8 = ((a * 256 : Nat) : Int) := by
  simp only [Gb]
  have : min (Int.toNat 8) IntKind.u64.bits = 8 := rfl
  rw [this, show ((a : Int) * 2 ^ 8) = ((a * 256 : Nat) : Int) by push_cast; rfl, Q13 _ (by omega)]
 rw [e1, Q13 b (by omega), (Qcc _ _ (by omega) (by omega)).1]
 have := Nat.shiftLeft_add_eq_or_of_lt (show b < 2 ^ 8 by omega) a
 rw [Nat.shiftLeft_eq] at this
 rw [← this]
theorem Qh7 (s : List UInt8) (i : Nat) (hi : i < s.length) : Q1r (s.take (i + 1)) = Q1r (s.take i) * 256 + s[i].toNat := by
 rw [List.take_succ_eq_append_getElem hi, Q85]
theorem Qmu (N : Nat) (s : List UInt8) (hl : s.length ≤ 8) : ∀ (k i : Nat), i ≤ s.length → s.length - i < k → Jy N s k (Q1r (s.take i) : Nat) (i : Int) = some ((Q1r s : Nat) : Int)
 | 0, i, h, h2 => by omega
 | k + 1, i, h, h2 => by
  simp only [Jy, Q6, Xo]
  by_cases hi : i < s.length
  ·rw [if_pos (by omega), Yb, List.getElem?_eq_getElem hi]
   simp only [Option.bind_some]
   have h3 := Q2e (s.take i)
   have h4 : 256 ^ (s.take i).length ≤ 256 ^ 7 := Nat.pow_le_pow_right (by omega) (by rw [List.length_take]; omega)
   have h5 : (256 : Nat) ^ 7 = 72057594037927936 := rfl
   rw [Qgv _ _ (by omega) s[i].toNat_lt, ← Qh7 s i hi, Qq _ (by omega)]
   exact_mod_cast Qmu N s hl k (i + 1) (by omega) (by omega)
  ·rw [if_neg (by omega), List.take_of_length_le (by omega)]
theorem Qhs (N : Nat) (s : List UInt8) (hl : s.length ≤ 8) (hN : 10 < N) : Q2h N s = some ((Q1r s : Nat) : Int) := by
 simp only [Q2h, Q6, Q37]
 rw [if_neg (by omega)]
 exact Qmu N s hl N 0 (by omega) (by omega)
abbrev Qaz (s : List UInt8) : Prop := s.length < 4611686018427387904
theorem Q4w (N : Nat) (s : List UInt8) (i n : Nat) (hs : Qaz s) (hi : i ≤ s.length) (hn : n < 4611686018427387904) : Qp N ⟨s, i, 0⟩ (n : Int) =
  some (if n ≤ s.length - i then ((s.drop i).take n, ⟨s, ((i + n : Nat) : Int), 0⟩) else ([], ⟨s, i, 3⟩)) := by
 unfold Qaz at hs
 simp only [Qp, U7, G3, Q6, Option.bind_some, Qay, show Q5 .eql (0 : Int) 0 = true from rfl, Bool.not_true, Bool.false_eq_true, if_false]
 rw [if_pos (by omega), Qq _ (by omega)]
 simp only [Option.bind_some, Bool.not_eq_true']
 by_cases h : n ≤ s.length - i
 ·have e1 : Q5 .leq (n : Int) ((s.length : Int) - (i : Int)) = true := by rw [Q74]; omega
  rw [e1, if_pos h, Qq _ (by omega)]
  simp only [Bool.true_eq_false, if_false]
  have e2 : ((i : Int) + (n : Int)) = ((i + n : Nat) : Int) := by push_cast; rfl
  rw [e2, if_pos (by simp), if_pos (by simp; omega), if_pos (by simp [Nat.ble_eq]; omega)]
  have e3 : ((i + n : Nat) : Int).toNat = i + n := rfl
  have e4 : (i : Int).toNat = i := rfl
  rw [e3, e4]
  rw [show (s.take (i + n)).drop i = (s.drop i).take n by rw [List.drop_take]; congr 1; omega]
 ·have e1 : Q5 .leq (n : Int) ((s.length : Int) - (i : Int)) = false := by
   have : ¬ (Q5 .leq (n : Int) ((s.length : Int) - (i : Int)) = true) := by rw [Q74]; omega
   exact Bool.eq_false_iff.2 this
  rw [e1, if_neg h]
  simp
theorem Q70 (N : Nat) (s : List UInt8) (i : Nat) (e : Int) (hi : i ≤ s.length) : Z1 N ⟨s, i, e⟩ = some (((s.length - i : Nat) : Int), ⟨s, i, e⟩) := by
 simp only [Z1, Z2, Q6]
 rw [if_pos (by simp), if_pos (by simp [Nat.ble_eq]; exact hi)]
 simp
theorem Q83 (N : Nat) (s : List UInt8) (w : Nat) (hs : Qaz s) (hw : w ≤ 8) (hN : 10 < N) : Qx N ⟨s, 0, 0⟩ (w : Int) =
  some (if w ≤ s.length then (((Q1r (s.take w) : Nat) : Int), ⟨s, (w : Int), 0⟩) else (0, ⟨s, 0, 3⟩)) := by
 simp only [Qx]
 have := Q4w N s 0 w hs (by omega) (by omega)
 rw [show ((0 : Nat) : Int) = 0 from rfl] at this
 rw [this]
 simp only [Option.bind_some, Nat.sub_zero, List.drop_zero, Nat.zero_add]
 by_cases h : w ≤ s.length
 ·rw [if_pos h, if_pos h]
  simp only
  rw [Qhs N _ (by rw [List.length_take]; omega) hN]
  rfl
 ·rw [if_neg h, if_neg h]
  dsimp only
  rw [Qhs N _ (by simp) hN]
  rfl
end
end Go.Av
namespace Go.Av
noncomputable section
open Go.Proofs
set_option maxRecDepth 100000
def Quw (code : Int) (t : Int × Int × Int × Bool × Bool) : Bool :=
 decide (t.1 = code) && decide (1 ≤ t.2.1 ∧ t.2.1 ≤ 25) && (t.2.2.2.2 == decide (22 ≤ t.2.1)) &&
 (t.2.2.2.2 || (if t.2.2.2.1 then decide ((t.2.2.1 = 1 ∨ t.2.2.1 = 4) ∧ 19 ≤ t.2.1 ∧ t.2.1 ≤ 21 ∧ t.1 ≠ 65)
  else if t.2.2.1 = 16 then decide ((t.2.1 = 15 ∨ t.2.1 = 18) ∧ t.1 ≠ 65)
  else decide (Q1p t.2.1 = false) && decide (t.2.2.1 = 0 ∨ t.2.2.1 = 1 ∨ t.2.2.1 = 2 ∨ t.2.2.1 = 4 ∨ t.2.2.1 = 8) &&
   decide (t.1 = 65 → t.2.2.1 = 0 ∧ t.2.1 = 2) && decide (t.2.2.1 = 1 → (Ji t.2.1).1 ≤ 8 → (Ji t.2.1).2 = false ∨ (Ji t.2.1).1 = 8) && decide (2 ≤ t.2.2.1 → (Ji t.2.1).1 = 8 * t.2.2.1)))
theorem Qmr : ((List.range 40).all fun k => Quw (Gs k) (Vs k)) = true := by decide +kernel
structure Well (code : Int) (c : Qf) : Prop where
 code : c.Code = code
 kind : 1 ≤ c.Kind ∧ c.Kind ≤ 25
 items : c.Items = decide (22 ≤ c.Kind)
 sized : c.Items = false → c.Sized = true → (c.Width = 1 ∨ c.Width = 4) ∧ 19 ≤ c.Kind ∧ c.Kind ≤ 21 ∧ c.Code ≠ 65
 wide : c.Items = false → c.Sized = false → c.Width = 16 → (c.Kind = 15 ∨ c.Kind = 18) ∧ c.Code ≠ 65
 num : c.Items = false → c.Sized = false → c.Width ≠ 16 → Q1p c.Kind = false ∧ (c.Width = 0 ∨ c.Width = 1 ∨ c.Width = 2 ∨ c.Width = 4 ∨ c.Width = 8) ∧ (c.Code = 65 → c.Width = 0 ∧ c.Kind = 2) ∧ (2 ≤ c.Width → (Ji c.Kind).1 = 8 * c.Width)
theorem Qbs (code : Int) (h : ofB code = true) : Well code (ofS code) := by
 have h1 : bsI code < 40 ∧ Gs (bsI code) = code := by simpa [ofB] using h
 have hw := List.all_eq_true.1 Qmr (bsI code) (by simpa using h1.1)
 rw [h1.2] at hw
 have e : ofT code = Vs (bsI code) := by unfold ofT; rw [if_pos h]
 rw [← e] at hw
 have es : ofS code = ⟨(ofT code).1, (ofT code).2.1, (ofT code).2.2.1, (ofT code).2.2.2.1, (ofT code).2.2.2.2⟩ := rfl
 rw [es]
 generalize ofT code = t at hw
 obtain ⟨c, k, w, s, i⟩ := t
 simp only [Quw, Bool.and_eq_true, decide_eq_true_eq, beq_iff_eq] at hw
 obtain ⟨⟨⟨h1, h2⟩, h3⟩, h4⟩ := hw
 refine ⟨h1, h2, h3, ?_, ?_, ?_⟩ <;> intro hi hs <;> simp only at hi hs
 ·rw [hi, hs] at h4
  simpa using h4
 ·intro hw16
  simp only at hw16
  rw [hi, hs, if_pos hw16] at h4
  simpa using h4
 ·intro hw16
  simp only at hw16
  rw [hi, hs, if_neg hw16] at h4
  simp only [Bool.false_or, Bool.and_eq_true, decide_eq_true_eq, Bool.false_eq_true, if_false] at h4
  exact ⟨h4.1.1.1.1, h4.1.1.1.2, h4.1.1.2, h4.2⟩
theorem Qen (code : Int) (h : ofB code = false) : ofS code = ⟨0, 0, 0, false, false⟩ := by
 unfold ofS ofT
 rw [h]; rfl
theorem Jd {v : Q0} (h : V6 v = 0) : 1 ≤ v.Kind ∧ v.Kind ≤ 21 ∧ Q7b v.Kind v.N' = true ∧ v.Items = [] ∧ (Q1p v.Kind = false → v.Text = []) ∧ (v.Kind = 15 ∨ v.Kind = 18 → v.Text.length = 16) ∧ v.Text.length ≤ 1048576 := by
 unfold V6 at h
 split at h
 ·omega
 split at h
 ·omega
 rename_i h1 h2
 have hi : v.Items = [] := by
  apply Classical.byContradiction
  intro hn; exact h2 (.inr hn)
 have ho : Q7b v.Kind v.N' = true := by
  cases ho : Q7b v.Kind v.N' with
  | true => rfl
  | false => exact absurd (.inl ho) h2
 split at h
 ·split at h
  ·omega
  ·rename_i h3 h4
   have ht : v.Text = [] := by
    apply Classical.byContradiction
    intro hn; exact h4 hn
   refine ⟨by omega, by omega, ho, hi, fun _ => ht, fun hk => ?_, by rw [ht]; simp⟩
   rcases hk with hk | hk <;> rw [hk] at h3 <;> cases h3
 ·split at h
  ·omega
  split at h
  ·omega
  rename_i h3 h4 h5
  exact ⟨by omega, by omega, ho, hi, fun ht => absurd ht h3, fun hk => by
   apply Classical.byContradiction
   intro hn; exact h4 ⟨hk, hn⟩, by omega⟩
theorem Qgp {k n : Int} (h : Q1p k = true) (hn : Q7b k n = true) (h0 : 0 ≤ n) : n = 0 := by
 unfold Q1p at h
 simp only [decide_eq_true_eq] at h
 have hb : Ji k = (0, false) := by
  rcases h with rfl | rfl | rfl | rfl | rfl <;> rfl
 simp only [Q7b, Bool.and_eq_true, hb, Q0a, Bool.false_eq_true, if_false, decide_eq_true_eq] at hn
 have := hn.1
 simp at this
 omega
theorem Qow {c : Qf} {n : Int} {w : Nat} (hw : c.Width = w) (h148 : w = 1 ∨ w = 2 ∨ w = 4 ∨ w = 8) (hn : okU n) (hf : Q0a n (8 * w) (Ji c.Kind).2 = true) : Gd c ((n.toNat % 256 ^ w : Nat) : Int) = n := by
 obtain ⟨h0, h1⟩ := hn
 unfold Gd
 unfold Q0a s64 at hf
 cases hs : (Ji c.Kind).2
 ·rw [hs] at hf
  simp only [Bool.false_eq_true, if_false, decide_eq_true_eq] at hf
  simp only [Bool.false_eq_true, false_and, if_false]
  rcases h148 with rfl | rfl | rfl | rfl <;> simp at hf ⊢ <;> omega
 ·rw [hs] at hf
  simp only [if_true, decide_eq_true_eq] at hf
  simp only [true_and, hw]
  rcases h148 with rfl | rfl | rfl | rfl <;> simp at hf ⊢ <;> split at hf <;> (try split) <;> omega
theorem Qc7 {c : Qf} {n w : Nat} (hw : c.Width = w) (h148 : w = 1 ∨ w = 2 ∨ w = 4 ∨ w = 8) (hn : n < 256 ^ w) : okU (Gd c n) ∧ (Gd c n).toNat % 256 ^ w = n ∧ Q0a (Gd c n) (8 * w) (Ji c.Kind).2 = true := by
 unfold Gd okU Q0a s64
 cases hs : (Ji c.Kind).2
 ·simp only [Bool.false_eq_true, false_and, if_false]
  rcases h148 with rfl | rfl | rfl | rfl <;> simp at hn ⊢ <;> omega
 ·simp only [true_and, hw, if_true]
  rcases h148 with rfl | rfl | rfl | rfl <;> simp at hn ⊢ <;> split <;> refine ⟨by omega, by omega, ?_⟩ <;> (try split) <;> omega
theorem Qj8 (N : Nat) (c : Qf) (n w : Nat) (hw : c.Width = w) (hww : w = 0 ∨ w = 1 ∨ w = 2 ∨ w = 4 ∨ w = 8) (hn : n < 256 ^ w) : G5 N c (n : Int) = some (Gd c n) := by
 simp only [G5, Qij, Option.bind_some, Q6, Q37, Gd]
 cases hs : (Ji c.Kind).2
 ·simp
 ·simp only [if_true, true_and, hw]
  rcases hww with rfl | hww
  ·simp
  rcases hww with rfl | rfl | rfl | rfl
  ·rw [if_pos (by omega), Qq (8 * ((1 : Nat) : Int)) (by omega), Qq _ (by omega), if_pos (by decide)]
   simp only [Nat.pow_one] at hn
   simp only [Q2s, Gb, Q8m]
   simp only [Option.some.injEq]
   rw [show min (Int.toNat (64 - 8 * ((1 : Nat) : Int))) IntKind.u64.bits = 56 from rfl, show min (Int.toNat (64 - 8 * ((1 : Nat) : Int))) IntKind.i64.bits = 56 from rfl]
   simp only [IntKind.wrap, IntKind.bits, IntKind.signed]
   rw [Int.fdiv_eq_ediv_of_nonneg _ (by decide)]
   simp
   split <;> split <;> omega
  ·rw [if_pos (by omega), Qq (8 * ((2 : Nat) : Int)) (by omega), Qq _ (by omega), if_pos (by decide)]
   simp at hn
   simp only [Q2s, Gb, Q8m]
   simp only [Option.some.injEq]
   rw [show min (Int.toNat (64 - 8 * ((2 : Nat) : Int))) IntKind.u64.bits = 48 from rfl, show min (Int.toNat (64 - 8 * ((2 : Nat) : Int))) IntKind.i64.bits = 48 from rfl]
   simp only [IntKind.wrap, IntKind.bits, IntKind.signed]
   rw [Int.fdiv_eq_ediv_of_nonneg _ (by decide)]
   simp
   split <;> split <;> omega
  ·rw [if_pos (by omega), Qq (8 * ((4 : Nat) : Int)) (by omega), Qq _ (by omega), if_pos (by decide)]
   simp at hn
   simp only [Q2s, Gb, Q8m]
   simp only [Option.some.injEq]
   rw [show min (Int.toNat (64 - 8 * ((4 : Nat) : Int))) IntKind.u64.bits = 32 from rfl, show min (Int.toNat (64 - 8 * ((4 : Nat) : Int))) IntKind.i64.bits = 32 from rfl]
   simp only [IntKind.wrap, IntKind.bits, IntKind.signed]
   rw [Int.fdiv_eq_ediv_of_nonneg _ (by decide)]
   simp
   split <;> split <;> omega
  ·rw [if_pos (by omega), Qq (8 * ((8 : Nat) : Int)) (by omega), Qq _ (by omega), if_pos (by decide)]
   simp at hn
   simp only [Q2s, Gb, Q8m]
   simp only [Option.some.injEq]
   rw [show min (Int.toNat (64 - 8 * ((8 : Nat) : Int))) IntKind.u64.bits = 0 from rfl, show min (Int.toNat (64 - 8 * ((8 : Nat) : Int))) IntKind.i64.bits = 0 from rfl]
   simp only [IntKind.wrap, IntKind.bits, IntKind.signed]
   rw [Int.fdiv_eq_ediv_of_nonneg _ (by decide)]
   simp
   split <;> omega
end
end Go.Av
namespace Go.Av
noncomputable section
open Go.Proofs
set_option maxRecDepth 100000
theorem Q2c {code : Int} {v : Q0} (h : Q1q code v = true) : ofB code = true ∧ (ofS code).Kind = v.Kind ∧ V6 v = 0 ∧ Q58 (ofS code) v = true := by
 simp only [Q1q, Bool.and_eq_true, decide_eq_true_eq] at h
 exact ⟨h.1.1.1, h.1.1.2, h.1.2, h.2⟩
theorem Qqf : okU 0 := ⟨by decide, by decide⟩
theorem Qw8 : okU 1 := ⟨by decide, by decide⟩
inductive Qwa (c : Qf) : Prop
 | sized (w : Nat) (hs : c.Sized = true) (hw : c.Width = w) (h : w = 1 ∨ w = 4) (hk : 19 ≤ c.Kind ∧ c.Kind ≤ 21) (hc : c.Code ≠ 65)
 | wide (hs : c.Sized = false) (hw : c.Width = 16) (hk : c.Kind = 15 ∨ c.Kind = 18) (hc : c.Code ≠ 65)
 | num (w : Nat) (hs : c.Sized = false) (hw : c.Width = w) (h : w = 0 ∨ w = 1 ∨ w = 2 ∨ w = 4 ∨ w = 8) (ht : Q1p c.Kind = false) (hc : c.Code = 65 → w = 0 ∧ c.Kind = 2) (hb : 2 ≤ w → (Ji c.Kind).1 = 8 * w)
theorem Well.shape {code : Int} {c : Qf} (h : Well code c) (hi : c.Items = false) : Qwa c := by
 cases hs : c.Sized with
 | true =>
  obtain ⟨h1, h2, h3, h4⟩ := h.sized hi hs
  rcases h1 with h1 | h1
  ·exact .sized 1 hs h1 (.inl rfl) ⟨h2, h3⟩ h4
  ·exact .sized 4 hs h1 (.inr rfl) ⟨h2, h3⟩ h4
 | false =>
  by_cases h16 : c.Width = 16
  ·obtain ⟨h1, h2⟩ := h.wide hi hs h16
   exact .wide hs h16 h1 h2
  ·obtain ⟨h1, h2, h3, h4⟩ := h.num hi hs h16
   have hw : c.Width = (c.Width.toNat : Nat) := by omega
   refine .num c.Width.toNat hs hw (by omega) h1 (fun hc => ?_) (fun hb => ?_)
   ·obtain ⟨q1, q2⟩ := h3 hc
    exact ⟨by omega, q2⟩
   ·have := h4 (by omega)
    omega
theorem Gr {code : Int} {c : Qf} (h : Well code c) (hk : c.Kind ≤ 21) : c.Items = false := by
 rw [h.items]
 exact decide_eq_false (by omega)
theorem Q7c (n : Nat) (h : n < 4611686018427387904) : IntKind.u64.wrap (n : Int) = n := Q13 _ (by omega)
theorem Qq6 (N : Nat) (c : Qf) (v : Q0) (w : Nat) (hw : c.Width = w) (h : w ≤ 8) (hl : v.Text.length ≤ 1048576) (hN : 10 < N) : Vl N ⟨c, v⟩ = some (Q1a v.Text.length w ++ v.Text) := by
 simp only [Vl, Q7c _ (show v.Text.length < 4611686018427387904 by omega), hw, Qis N _ w (show v.Text.length < 18446744073709551616 by omega) h hN, Option.bind_some, Q6]
 rw [if_pos (by simp [Nat.ble_eq, Uw]; omega)]
theorem Qvl (N : Nat) (c : Qf) (v : Q0) (w : Nat) (hw : c.Width = w) (h : w ≤ 8) (hn : okU v.N') (hN : 10 < N) : Y1 N ⟨c, v⟩ = some (Q1a v.N'.toNat w) := by
 have e : v.N' = ((v.N'.toNat : Nat) : Int) := by have := hn.1; omega
 have hlt : v.N'.toNat < 18446744073709551616 := by have := hn.2; have := hn.1; omega
 simp only [Y1]
 rw [e, hw, Qis N _ w hlt h hN]
 rfl
theorem Qvg (N : Nat) (code : Int) (v : Q0) (hn : okU v.N') (h : v.Text.length < N) (hb : v.Text.length < 4611686018427387904) (hN : 10 < N) : Q0f N code v = some (Qpk code v) := by
 simp only [Q0f, Q4n N v hn h hb, Qo5 N code v hn h hb, Z7, Option.bind_some, Q6, Ub, Qpk]
 by_cases h1 : V6 v = 0
 ·rw [if_neg (show ¬ (V6 v ≠ 0) by simp [h1]), if_neg (show ¬ (V6 v ≠ 0) by simp [h1])]
  cases hf : Q1q code v with
  | false => rfl
  | true =>
   obtain ⟨f1, f2, f3, f4⟩ := Q2c hf
   obtain ⟨c1, c2, c3, c4, c5, c6, c7⟩ := Jd f3
   have hw := Qbs code f1
   have hi := Gr hw (by omega)
   simp only [Bool.not_true, Bool.false_eq_true, if_false, Bool.true_eq_false]
   generalize ofS code = c at *
   unfold Q0z
   cases hw.shape hi with
   | sized w hs hw' h12 hk hc =>
    rw [hs, Qq6 N c v w hw' (by omega) c7 hN, hw']
    simp
   | wide hs hw' hk hc =>
    rw [hs, hw']
    simp only [Bool.false_eq_true, if_false]
    rw [if_neg (by decide), if_neg (by decide), if_neg (by decide), if_neg (by decide), if_neg (by decide), if_pos (by decide)]
    rfl
   | num w hs hw' hh ht hc hbb =>
    rw [hs, Qvl N c v w hw' (by omega) hn hN, hw']
    simp only [Bool.false_eq_true, if_false, Jc, Option.bind_some]
    rcases hh with rfl | rfl | rfl | rfl | rfl
    ·rw [if_pos (by decide), if_neg (by decide)]; rfl
    ·rw [if_neg (by decide), if_pos (by decide), if_neg (by decide)]; rfl
    ·rw [if_neg (by decide), if_neg (by decide), if_pos (by decide), if_neg (by decide)]; rfl
    ·rw [if_neg (by decide), if_neg (by decide), if_neg (by decide), if_pos (by decide), if_neg (by decide)]; rfl
    ·rw [if_neg (by decide), if_neg (by decide), if_neg (by decide), if_neg (by decide), if_pos (by decide), if_neg (by decide)]; rfl
 ·rw [if_pos h1, if_pos h1]
theorem Qiy (k : Int) (v : Q0) (n : Int) : (if k = 0 then some (v, n, (0 : Int)) else if k = 2 then some (⟨0, 0, [], []⟩, 0, 5) else some (⟨0, 0, [], []⟩, 0, k)) = some (if k = 0 then (v, n, 0) else (Q0i, 0, if k = 2 then 5 else k)) := by
 split
 ·rfl
 ·split <;> rfl
theorem Qrr (N : Nat) (code : Int) (s : List UInt8) (hs : Qaz s) (h : s.length < N) (hN : 20 < N) : Q0h N code s = some (Qab code s) := by
 simp only [Q0h, Z7, Option.bind_some, Q6, Qab]
 cases hb : ofB code with
 | false => simp only [Bool.not_false, if_true, true_or]; rfl
 | true =>
  have hw := Qbs code hb
  simp only [Bool.not_true, Bool.false_eq_true, if_false, Bool.true_eq_false, false_or]
  cases hi : (ofS code).Items with
  | true => rfl
  | false =>
   simp only [Bool.false_eq_true, if_false]
   generalize ofS code = c at *
   have hz : (0 : Int) = ((0 : Nat) : Int) := rfl
   cases hw.shape hi with
   | sized w hsz hw' h12 hk hc =>
    rw [hsz, hw', Q83 N s w hs (by omega) (by omega)]
    simp only [if_true, Option.bind_some, Int.toNat_natCast]
    by_cases hl : w ≤ s.length
    ·rw [if_pos hl]
     simp only []
     rw [Q70 N s w 0 hl, if_neg (by omega)]
     simp only [Option.bind_some, Q37]
     have hlt := Q2e (s.take w)
     have h4 : 256 ^ (s.take w).length ≤ 256 ^ 4 := Nat.pow_le_pow_right (by omega) (by rw [List.length_take]; omega)
     have h5 : (256 : Nat) ^ 4 = 4294967296 := rfl
     unfold Qaz at hs
     rw [Q7c _ (by omega)]
     generalize hm : Q1r (s.take w) = m at *
     by_cases h6 : s.length - w < m
     ·rw [if_pos (by omega), if_pos h6]; rfl
     ·rw [if_neg (by omega), if_neg h6]
      rw [Qq _ (by omega), Q4w N s w m (by unfold Qaz; omega) hl (by omega), if_pos (by omega)]
      have hcl : ((s.drop w).take m).length ≤ s.length := by rw [List.length_take, List.length_drop]; omega
      simp only [Option.bind_some, Ql, Qr, Ub]
      rw [if_neg (by simp), Q4n N _ Qqf (by dsimp only; omega) (by dsimp only; omega)]
      simp only [Option.bind_some, Wb]
      rw [Qiy]
      unfold Qma
      rw [show ((w + m : Nat) : Int) = (w : Int) + (m : Int) by push_cast; rfl]
    ·rw [if_neg hl, if_pos (by omega)]
     simp only []
     have := Q70 N s 0 3 (by omega)
     rw [← hz] at this
     rw [this]
     simp only [Option.bind_some, Q37]
     unfold Qaz at hs
     rw [Q7c _ (by omega), if_neg (by omega)]
     have e0 : Qp N ⟨s, 0, 3⟩ (IntKind.i64.wrap 0) = some ([], ⟨s, 0, 3⟩) := by
      simp only [Qp, U7, Option.bind_some, Q6]
      rfl
     rw [e0]
     simp only [Option.bind_some, Ql, Ub]
     rw [if_pos (by decide)]; rfl
   | wide hsz hw' hk hc =>
    rw [hsz, hw']
    simp only [Bool.false_eq_true, if_false, Wb, if_true]
    have := Q4w N s 0 16 hs (by omega) (by omega)
    rw [← hz, show ((16 : Nat) : Int) = 16 from rfl] at this
    rw [this]
    simp only [Nat.sub_zero, List.drop_zero, Option.bind_some]
    by_cases hl : 16 ≤ s.length
    ·rw [if_pos hl, if_neg (by omega)]
     have hcl : (s.take 16).length ≤ s.length := by rw [List.length_take]; omega
     unfold Qaz at hs
     simp only [Option.bind_some, Ql, Qr, Ub]
     rw [if_neg (by simp), Q4n N _ Qqf (by dsimp only; omega) (by dsimp only; omega)]
     simp only [Option.bind_some]
     rw [Qiy]
     rfl
    ·rw [if_neg hl, if_pos (by omega)]
     simp only [Ql, Option.bind_some, Ub]
     rw [if_pos (by decide)]; rfl
   | num w hsz hw' hh ht hc hbb =>
    rw [hsz, hw']
    simp only [Bool.false_eq_true, if_false, Wb, Int.toNat_natCast]
    rw [if_neg (by omega), if_neg (show ¬ ((w : Int) = 16) by omega)]
    by_cases h65 : c.Code = 65
    ·obtain ⟨rfl, hk2⟩ := hc h65
     rw [if_pos h65, if_pos h65, if_neg (by omega)]
     simp only [Option.bind_some, Ql, Qr, Ub]
     rw [if_neg (by simp), Q4n N _ Qw8 (by simp only [List.length_nil]; omega) (by simp only [List.length_nil]; omega)]
     simp only [Option.bind_some]
     rw [Qiy]
     rfl
    ·rw [if_neg h65, if_neg h65, Q83 N s w hs (by omega) (by omega)]
     simp only [Option.bind_some]
     by_cases hl : w ≤ s.length
     ·rw [if_pos hl, if_neg (by omega)]
      have hlt := Q2e (s.take w)
      rw [List.length_take, Nat.min_eq_left hl] at hlt
      simp only []
      rw [Qj8 N c _ w hw' hh hlt]
      simp only [Option.bind_some, Ql, Qr, Ub]
      have hu : okU (Gd c (Q1r (s.take w) : Nat)) := by
       rcases hh with rfl | hh
       ·have : Gd c (Q1r (s.take 0) : Nat) = 0 := by
         unfold Gd
         rw [if_neg (by omega)]; rfl
        rw [this]; exact ⟨by decide, by decide⟩
       ·exact (Qc7 hw' (by omega) hlt).1
      rw [if_neg (by simp), Q4n N _ hu (by simp only [List.length_nil]; omega) (by simp only [List.length_nil]; omega)]
      simp only [Option.bind_some]
      rw [Qiy]
      rfl
     ·rw [if_neg hl, if_pos (by omega)]
      simp only []
      rw [hz, Qj8 N c 0 w hw' hh (Nat.pow_pos (by omega))]
      simp only [Option.bind_some, Ql, Ub]
      rw [if_pos (by decide)]; rfl
end
end Go.Av
namespace Go.Av
noncomputable section
open Go.Proofs
set_option maxRecDepth 100000
theorem Q0.ext' {v w : Q0} (h1 : v.Kind = w.Kind) (h2 : v.N' = w.N') (h3 : v.Text = w.Text) (h4 : v.Items = w.Items) : v = w := by
 cases v; cases w; simp_all
theorem Qap {k : Int} (h : 19 ≤ k ∧ k ≤ 21) : Q1p k = true := by
 unfold Q1p; exact decide_eq_true (by omega)
theorem Qlq {k : Int} (h : k = 15 ∨ k = 18) : Q1p k = true := by
 unfold Q1p; exact decide_eq_true (by omega)
theorem Q6d {code : Int} {v : Q0} (hf : Q1q code v = true) : (Q0z (ofS code) v).length = (ofS code).Width.toNat + (if (ofS code).Sized then v.Text.length else 0) := by
 obtain ⟨f1, f2, f3, f4⟩ := Q2c hf
 obtain ⟨c1, c2, c3, c4, c5, c6, c7⟩ := Jd f3
 have hw := Qbs code f1
 have hi := Gr hw (by omega)
 unfold Q0z
 cases hw.shape hi with
 | sized w hs hw' h12 hk hc => rw [hs]; simp [Uw]
 | wide hs hw' hk hc =>
  rw [hs, hw']
  simp [c6 (by omega)]
 | num w hs hw' hh ht hc hbb =>
  rw [hs, hw']
  simp only [Bool.false_eq_true, if_false]
  rw [if_neg (by omega), Uw]; rfl
theorem Qqi {code : Int} {v : Q0} {w : Nat} (_hn : okU v.N') (hf : Q1q code v = true) (hs : (ofS code).Sized = false) (hw' : (ofS code).Width = w) (hh : w = 1 ∨ w = 2 ∨ w = 4 ∨ w = 8) (h65 : (ofS code).Code ≠ 65)
  (hbb : 2 ≤ w → (Ji (ofS code).Kind).1 = 8 * w) : Q0a v.N' (8 * w) (Ji (ofS code).Kind).2 = true := by
 obtain ⟨f1, f2, f3, f4⟩ := Q2c hf
 obtain ⟨c1, c2, c3, c4, c5, c6, c7⟩ := Jd f3
 unfold Q58 at f4
 rw [if_neg h65, hs, hw'] at f4
 simp only [Bool.false_eq_true, if_false] at f4
 rw [if_neg (by omega)] at f4
 by_cases h1 : w = 1
 ·subst h1
  rw [if_pos (by decide)] at f4
  exact f4
 ·simp only [Q7b, Bool.and_eq_true] at c3
  have := c3.1
  rw [← f2, hbb (by omega)] at this
  exact this
theorem Qvc {code : Int} {v : Q0} (hn : okU v.N') (hf : Q1q code v = true) (s : List UInt8) : Qab code (Q0z (ofS code) v ++ s) = (v, ((Q0z (ofS code) v).length : Int), 0) := by
 have hlen := Q6d hf
 obtain ⟨f1, f2, f3, f4⟩ := Q2c hf
 obtain ⟨c1, c2, c3, c4, c5, c6, c7⟩ := Jd f3
 have hw := Qbs code f1
 have hi := Gr hw (by omega)
 have nf := fun w => Qqi (w := w) hn hf
 unfold Qab
 rw [f1, hi, if_neg (by simp)]
 have hd : Q0z (ofS code) v = Q0z (ofS code) v := rfl
 unfold Q0z at hd hlen ⊢
 cases hw.shape hi with
 | sized w hs hw' h12 hk hc =>
  simp only [hs, hw', if_true, Int.toNat_natCast, List.append_assoc]
  have hbl := Uw w v.Text.length
  have e1 : (Q1a v.Text.length w ++ (v.Text ++ s)).take w = Q1a v.Text.length w := List.take_left' hbl
  have e2 : (Q1a v.Text.length w ++ (v.Text ++ s)).drop w = v.Text ++ s := List.drop_left' hbl
  have htx : Q1p v.Kind = true := Qap (by omega)
  have hn0 := Qgp htx c3 hn.1
  have e3 : v.Text.length % 256 ^ w = v.Text.length := by
   apply Nat.mod_eq_of_lt
   unfold Q58 at f4
   rw [if_neg hc, hs, if_pos rfl, hw'] at f4
   rcases h12 with rfl | rfl
   ·simp at f4; omega
   ·omega
  rw [e1, e2, Qaf, e3, List.take_left' rfl]
  rw [if_neg (by simp [hbl]; omega), if_neg (by simp [hbl])]
  have ev : (⟨(ofS code).Kind, 0, v.Text, []⟩ : Q0) = v := Q0.ext' f2 hn0.symm rfl c4.symm
  rw [ev, Qma, if_pos f3]
  simp [hbl]
 | wide hs hw' hk hc =>
  simp only [hs, hw', Bool.false_eq_true, if_false, if_true]
  have h16 := c6 (by omega)
  have htx : Q1p v.Kind = true := Qlq (by omega)
  have hn0 := Qgp htx c3 hn.1
  rw [if_neg (by simp [h16]; omega), List.take_left' h16]
  have ev : (⟨(ofS code).Kind, 0, v.Text, []⟩ : Q0) = v := Q0.ext' f2 hn0.symm rfl c4.symm
  rw [ev, Qma, if_pos f3]
  simp [h16]
 | num w hs hw' hh ht hc hbb =>
  simp only [hs, hw', Bool.false_eq_true, if_false, Int.toNat_natCast]
  have h16 : ¬ ((w : Int) = 16) := by omega
  have hbl := Uw w v.N'.toNat
  have ht0 := c5 (by rw [← f2]; exact ht)
  simp only [h16, if_false]
  rw [if_neg (by simp [hbl]; omega)]
  by_cases h65 : (ofS code).Code = 65
  ·obtain ⟨rfl, hk2⟩ := hc h65
   rw [if_pos h65]
   have hn1 : v.N' = 1 := by
    unfold Q58 at f4
    rw [if_pos h65] at f4
    simpa using f4
   have ev : (⟨(ofS code).Kind, 1, [], []⟩ : Q0) = v := Q0.ext' f2 hn1.symm ht0.symm c4.symm
   rw [ev, Qma, if_pos f3]
   simp [hbl]
  ·rw [if_neg h65, List.take_left' hbl, Qaf]
   have e : Gd (ofS code) ((v.N'.toNat % 256 ^ w : Nat) : Int) = v.N' := by
    rcases hh with rfl | hh
    ·unfold Q58 at f4
     rw [if_neg h65, hs, hw'] at f4
     simp at f4
     unfold Gd
     rw [if_neg (by omega), f4]; rfl
    ·exact Qow hw' hh hn (nf w hs hw' hh h65 hbb)
   rw [e]
   have ev : (⟨(ofS code).Kind, v.N', [], []⟩ : Q0) = v := Q0.ext' f2 rfl ht0.symm c4.symm
   rw [ev, Qma, if_pos f3]
   simp [hbl]
end
end Go.Av
namespace Go.Av
noncomputable section
open Go.Proofs
set_option maxRecDepth 100000
theorem Qk4 {v x : Q0} {n m : Int} (h : Qma v n = (x, m, 0)) : V6 v = 0 ∧ x = v ∧ m = n := by
 unfold Qma at h
 split at h
 ·rename_i h0
  cases h
  exact ⟨h0, rfl, rfl⟩
 ·rename_i h0
  simp only [Prod.mk.injEq] at h
  split at h <;> omega
theorem reads {code : Int} {s : List UInt8} {x : Q0} {n : Int} (hs : Qaz s) (h : Qab code s = (x, n, 0)) : 0 ≤ n ∧ n ≤ s.length ∧ okU x.N' ∧ x.Text.length ≤ s.length ∧ V6 x = 0 ∧ Q1q code x = true ∧ Q0z (ofS code) x = s.take n.toNat := by
 unfold Qab at h
 split at h
 ·cases h
 rename_i h1
 have hb : ofB code = true := by
  cases hb : ofB code with
  | true => rfl
  | false => exact absurd (.inl hb) h1
 have hi : (ofS code).Items = false := by
  cases hi : (ofS code).Items with
  | false => rfl
  | true => exact absurd (.inr hi) h1
 have hw := Qbs code hb
 split at h
 ·cases h
 rename_i h2
 have fit : ∀ v : Q0, v.Kind = (ofS code).Kind → V6 v = 0 → Q58 (ofS code) v = true → Q1q code v = true := fun v q1 q2 q3 => by
  simp only [Q1q, hb, q1, q2, q3, decide_true, Bool.and_self]
 have hd : ∀ v, Q0z (ofS code) v = Q0z (ofS code) v := fun _ => rfl
 unfold Qaz at hs
 cases hw.shape hi with
 | sized w hsz hw' h12 hk hc =>
  simp only [hsz, hw', if_true, Int.toNat_natCast] at h
  split at h
  ·cases h
  rename_i h3
  obtain ⟨q1, rfl, rfl⟩ := Qk4 h
  have hlw : w ≤ s.length := by omega
  have hmlt := Q2e (s.take w)
  rw [List.length_take, Nat.min_eq_left hlw] at hmlt
  have hbn := Qnq (s.take w)
  rw [List.length_take, Nat.min_eq_left hlw] at hbn
  generalize hm : Q1r (s.take w) = m at *
  have hlen : ((s.drop w).take m).length = m := by rw [List.length_take, List.length_drop]; omega
  refine ⟨by omega, by omega, Qqf, by simp only [hlen]; omega, q1, fit _ rfl q1 ?_, ?_⟩
  ·unfold Q58
   rw [if_neg hc, hsz, if_pos rfl, hw']
   rcases h12 with rfl | rfl
   ·simp only [hlen]
    simp at hmlt
    exact decide_eq_true (.inr (by omega))
   ·exact decide_eq_true (.inl rfl)
  ·unfold Q0z
   simp only [hsz, if_true, hw', Int.toNat_natCast, hlen, hbn]
   rw [show ((w : Int) + (m : Int)).toNat = w + m by omega, List.take_add]
 | wide hsz hw' hk hc =>
  simp only [hsz, hw', Bool.false_eq_true, if_false, if_true] at h
  obtain ⟨q1, rfl, rfl⟩ := Qk4 h
  refine ⟨by omega, by omega, Qqf, by simp only [List.length_take]; omega, q1, fit _ rfl q1 ?_, ?_⟩
  ·unfold Q58
   rw [if_neg hc, hsz, hw']; rfl
  ·unfold Q0z
   simp only [hsz, hw', Bool.false_eq_true, if_false, if_true]
   rfl
 | num w hsz hw' hh ht hc hbb =>
  simp only [hsz, hw', Bool.false_eq_true, if_false, Int.toNat_natCast] at h
  rw [if_neg (show ¬ ((w : Int) = 16) by omega)] at h
  split at h
  ·rename_i h65
   obtain ⟨rfl, hk2⟩ := hc h65
   obtain ⟨q1, rfl, rfl⟩ := Qk4 h
   refine ⟨by omega, by omega, Qw8, by simp, q1, fit _ rfl q1 ?_, ?_⟩
   ·unfold Q58
    rw [if_pos h65]; rfl
   ·unfold Q0z
    simp only [hsz, hw', Bool.false_eq_true, if_false]
    rfl
  ·rename_i h65
   obtain ⟨q1, rfl, rfl⟩ := Qk4 h
   have hlw : w ≤ s.length := by omega
   have hlt := Q2e (s.take w)
   have hbn := Qnq (s.take w)
   rw [List.length_take, Nat.min_eq_left hlw] at hlt hbn
   rcases hh with rfl | hh
   ·have e0 : Gd (ofS code) (Q1r (s.take 0) : Nat) = 0 := by
     unfold Gd
     rw [if_neg (by omega)]; rfl
    rw [e0] at q1 ⊢
    refine ⟨by omega, by omega, Qqf, by simp, q1, fit _ rfl q1 ?_, ?_⟩
    ·unfold Q58
     rw [if_neg h65, hsz, hw']; rfl
    ·unfold Q0z
     simp only [hsz, hw', Bool.false_eq_true, if_false]
     rfl
   ·obtain ⟨w1, w2, w3⟩ := Qc7 hw' hh hlt
    refine ⟨by omega, by omega, w1, by simp, q1, fit _ rfl q1 ?_, ?_⟩
    ·unfold Q58
     rw [if_neg h65, hsz, hw']
     simp only [Bool.false_eq_true, if_false]
     rw [if_neg (by omega)]
     split
     ·rename_i h1
      have : w = 1 := by omega
      subst this
      exact w3
     ·rfl
    ·unfold Q0z
     simp only [hsz, hw', Bool.false_eq_true, if_false, Int.toNat_natCast]
     rw [if_neg (by omega), ← Qjf, w2, hbn]
end
end Go.Av
namespace Go.Av
noncomputable section
open Go.Proofs
set_option maxRecDepth 100000
def refTab : List Qf := (Wm 0).getD []
theorem Qhi (N : Nat) : Wm N = some refTab := rfl
theorem Q6e : refTab.length = 40 := rfl
def Qv0 (c : Qf) : Int × Int × Int × Bool × Bool := (c.Code, c.Kind, c.Width, c.Sized, c.Items)
theorem Qq2 {c d : Qf} (h : Qv0 c = Qv0 d) : c = d := by
 cases c; cases d
 simp only [Qv0, Prod.mk.injEq] at h
 simp [h]
def Qwk : Option Qf → Qf × Bool
 | some c => (c, true)
 | none => (⟨0, 0, 0, false, false⟩, false)
theorem Qje (N : Nat) (code : Int) (l : List Qf) (hl : l.length < 1000) : ∀ (n i : Nat), i ≤ l.length → l.length - i < n → Wi N code l n (i : Int) = some (Qwk ((l.drop i).find? (fun c => decide (c.Code = code))))
 | 0, i, _, h => by omega
 | n + 1, i, hi, hn => by
  simp only [Wi, Q6, Xo, Wb, Jn, Yb]
  by_cases h : i < l.length
  ·rw [if_pos (by omega), List.getElem?_eq_getElem h, List.drop_eq_getElem_cons h, List.find?_cons]
   simp only [Option.bind_some]
   by_cases hc : l[i].Code = code
   ·rw [if_pos hc, decide_eq_true hc]; rfl
   ·rw [if_neg hc, decide_eq_false hc, Qq _ (by omega)]
    exact_mod_cast Qje N code l hl n (i + 1) (by omega) (by omega)
  ·rw [if_neg (by omega), List.drop_of_length_le (by omega)]; rfl
def Qxb (n : Nat) : Bool := decide ((Qv0 (Qwk (refTab.find? (fun c => decide (c.Code = (n : Int))))).1, (Qwk (refTab.find? (fun c => decide (c.Code = (n : Int))))).2) = (Qv0 (ofS n), ofB n))
theorem Qqz : ((List.range 256).all Qxb) = true := by decide +kernel
theorem Q5w {code : Int} (h : ofB code = true) : 0 ≤ code ∧ code < 256 := by
 have h1 : bsI code < 40 ∧ Gs (bsI code) = code := by simpa [ofB] using h
 have hall : ((List.range 40).all fun k => decide (0 ≤ Gs k ∧ Gs k < 256)) = true := by decide +kernel
 have := List.all_eq_true.1 hall (bsI code) (by simpa using h1.1)
 rw [h1.2] at this
 simpa using this
theorem Qmc : (refTab.all fun c => decide (0 ≤ c.Code ∧ c.Code < 256)) = true := by decide +kernel
theorem Q2y (N : Nat) (code : Int) (hN : 50 < N) : Zi N code = some (ofS code, ofB code) := by
 simp only [Zi, Qhi, Option.bind_some]
 have := Qje N code refTab (by rw [Q6e]; omega) N 0 (by omega) (by rw [Q6e]; omega)
 rw [show ((0 : Nat) : Int) = 0 from rfl] at this
 rw [this, List.drop_zero, Option.some.injEq]
 by_cases h : 0 ≤ code ∧ code < 256
 ·have h1 := List.all_eq_true.1 Qqz code.toNat (by simp; omega)
  simp only [Qxb, show ((code.toNat : Nat) : Int) = code by omega, decide_eq_true_eq, Prod.mk.injEq] at h1
  exact Prod.ext (Qq2 h1.1) h1.2
 ·have hb : ofB code = false := by
   cases hb : ofB code with
   | false => rfl
   | true => exact absurd (Q5w hb) h
  have hf : refTab.find? (fun c => decide (c.Code = code)) = none := by
   rw [List.find?_eq_none]
   intro c hc hcc
   have := List.all_eq_true.1 Qmc c hc
   simp only [decide_eq_true_eq] at this hcc
   omega
  rw [hf, hb, Qen code hb]; rfl
theorem Q73 (N : Nat) (kind : Int) (l : List Qf) (hl : l.length < 1000) : ∀ (n i : Nat) (acc : List Int), i ≤ l.length → l.length - i < n → acc.length ≤ i → Y8 N kind l n (i : Int) acc = some (acc ++ ((l.drop i).filter (fun c => decide (c.Kind = kind))).map (·.Code))
 | 0, i, acc, _, h, _ => by omega
 | n + 1, i, acc, hi, hn, ha => by
  simp only [Y8, Q6, Xo, Wb, Jn, Yb]
  by_cases h : i < l.length
  ·rw [if_pos (by omega), List.getElem?_eq_getElem h, List.drop_eq_getElem_cons h, List.filter_cons]
   simp only [Option.bind_some]
   by_cases hc : l[i].Kind = kind
   ·rw [if_pos hc, decide_eq_true hc, if_pos (by simp [Nat.ble_eq]; omega), Qq _ (by omega)]
    have := Q73 N kind l hl n (i + 1) (acc ++ [l[i].Code]) (by omega) (by omega) (by simp; omega)
    rw [show ((i : Int) + 1) = ((i + 1 : Nat) : Int) by push_cast; rfl, this]
    simp
   ·rw [if_neg hc, decide_eq_false hc, Qq _ (by omega)]
    have := Q73 N kind l hl n (i + 1) acc (by omega) (by omega) (by omega)
    rw [show ((i : Int) + 1) = ((i + 1 : Nat) : Int) by push_cast; rfl, this]
    simp
  ·rw [if_neg (by omega), List.drop_of_length_le (by omega)]; simp
theorem Qqh : ((List.range 26).all fun k => decide ((refTab.filter (fun c => decide (c.Kind = (k : Int)))).map (·.Code) = Ux k)) = true := by decide +kernel
theorem Qld : (refTab.all fun c => decide (1 ≤ c.Kind ∧ c.Kind ≤ 25)) = true := by decide +kernel
theorem Qi3 (N : Nat) (kind : Int) (hN : 50 < N) : Vo N kind = some (Ux kind) := by
 simp only [Vo, Qhi, Option.bind_some]
 have := Q73 N kind refTab (by rw [Q6e]; omega) N 0 [] (by omega) (by rw [Q6e]; omega) (by simp)
 rw [show ((0 : Nat) : Int) = 0 from rfl] at this
 rw [this, List.drop_zero, List.nil_append, Option.some.injEq]
 by_cases h : kind < 1 ∨ 25 < kind
 ·rw [Q6a kind h, List.map_eq_nil_iff, List.filter_eq_nil_iff]
  intro c hc hcc
  have := List.all_eq_true.1 Qld c hc
  simp only [decide_eq_true_eq] at this hcc
  omega
 ·have h1 := List.all_eq_true.1 Qqh kind.toNat (by simp; omega)
  simp only [show ((kind.toNat : Nat) : Int) = kind by omega, decide_eq_true_eq] at h1
  exact h1
theorem Qpr (s : List UInt8) (i k lo hi : Nat) : inB (s.drop i) k lo hi = inB s (i + k) lo hi := by
 unfold inB
 rw [List.getElem?_drop]
theorem Q4a (N : Nat) (s : List UInt8) (i k lo hi : Nat) : Qa N s ((i + k : Nat) : Int) (lo : Int) (hi : Int) = some (inB (s.drop i) k lo hi) := by
 rw [Qpr]
 simp only [Qa, Q6, Xo, Qay, Yb, inB]
 by_cases h : i + k < s.length
 ·rw [if_pos (by omega), List.getElem?_eq_getElem h]
  simp only [Option.bind_some]
  by_cases h1 : lo ≤ s[i + k].toNat
  ·rw [if_pos (by omega)]
   simp only [Q5, h1, true_and, Option.some.injEq, decide_eq_decide]; omega
  ·rw [if_neg (by omega)]
   simp only [h1, false_and, decide_false]
 ·rw [if_neg (by omega), List.getElem?_eq_none (by omega)]
def cpB (s : List UInt8) (b : Nat) : Nat := if b < 128 then 1
  else if 194 ≤ b ∧ b ≤ 223 then (if inB s 1 128 191 then 2 else 0)
  else if b = 224 then (if inB s 1 160 191 && inB s 2 128 191 then 3 else 0)
  else if b = 237 then (if inB s 1 128 159 && inB s 2 128 191 then 3 else 0)
  else if 225 ≤ b ∧ b ≤ 239 then (if inB s 1 128 191 && inB s 2 128 191 then 3 else 0)
  else if b = 240 then (if inB s 1 144 191 && inB s 2 128 191 && inB s 3 128 191 then 4 else 0)
  else if 241 ≤ b ∧ b ≤ 243 then (if inB s 1 128 191 && inB s 2 128 191 && inB s 3 128 191 then 4 else 0)
  else if b = 244 then (if inB s 1 128 143 && inB s 2 128 191 && inB s 3 128 191 then 4 else 0)
  else 0
theorem Qm2 (b : Nat) : (b < 128) ∨ (194 ≤ b ∧ b ≤ 223) ∨ (b = 224) ∨ (b = 237) ∨ (225 ≤ b ∧ b ≤ 239 ∧ b ≠ 237) ∨ (b = 240) ∨ (241 ≤ b ∧ b ≤ 243) ∨ (b = 244) ∨ (128 ≤ b ∧ b < 194) ∨ (244 < b) := by omega
theorem Qt7 (N : Nat) (s : List UInt8) (i : Nat) (hb : s.length < 4611686018427387904) (hi : i < s.length) : U8 N s (i : Int) = some ((cpN (s.drop i) : Nat) : Int) := by
 have e1 : IntKind.i64.wrap ((i : Int) + 1) = ((i + 1 : Nat) : Int) := by rw [Qq _ (by omega)]; push_cast; rfl
 have e2 : IntKind.i64.wrap ((i : Int) + 2) = ((i + 2 : Nat) : Int) := by rw [Qq _ (by omega)]; push_cast; rfl
 have e3 : IntKind.i64.wrap ((i : Int) + 3) = ((i + 3 : Nat) : Int) := by rw [Qq _ (by omega)]; push_cast; rfl
 have c0 : Qa N s ((i + 1 : Nat) : Int) 128 191 = some (inB (s.drop i) 1 128 191) := Q4a N s i 1 128 191
 have c1 : Qa N s ((i + 2 : Nat) : Int) 128 191 = some (inB (s.drop i) 2 128 191) := Q4a N s i 2 128 191
 have c2 : Qa N s ((i + 3 : Nat) : Int) 128 191 = some (inB (s.drop i) 3 128 191) := Q4a N s i 3 128 191
 have c3 : Qa N s ((i + 1 : Nat) : Int) 160 191 = some (inB (s.drop i) 1 160 191) := Q4a N s i 1 160 191
 have c4 : Qa N s ((i + 1 : Nat) : Int) 128 159 = some (inB (s.drop i) 1 128 159) := Q4a N s i 1 128 159
 have c5 : Qa N s ((i + 1 : Nat) : Int) 144 191 = some (inB (s.drop i) 1 144 191) := Q4a N s i 1 144 191
 have c6 : Qa N s ((i + 1 : Nat) : Int) 128 143 = some (inB (s.drop i) 1 128 143) := Q4a N s i 1 128 143
 have hd : s.drop i = s[i] :: s.drop (i + 1) := List.drop_eq_getElem_cons hi
 have hcp : cpN (s.drop i) = cpB (s.drop i) s[i].toNat := by
  rw [hd]; rfl
 rw [hcp]
 simp only [U8, Xh, Zt, Xn, Xl, Zd, Yf, Zx, Yb, List.getElem?_eq_getElem hi, Option.bind_some, Q6, Xo, Qay, Q74, Wb, Ub, e1, e2, e3]
 simp only [c0, c1, c2, c3, c4, c5, c6, Option.bind_some, cpB]
 generalize s[i].toNat = b
 generalize inB (s.drop i) 1 128 191 = q1
 generalize inB (s.drop i) 2 128 191 = q2
 generalize inB (s.drop i) 3 128 191 = q3
 generalize inB (s.drop i) 1 160 191 = q4
 generalize inB (s.drop i) 1 128 159 = q5
 generalize inB (s.drop i) 1 144 191 = q6
 generalize inB (s.drop i) 1 128 143 = q7
 rcases Qm2 b with h | h | h | h | h | h | h | h | h | h
 ·simp only [show ((b : Int) < 128) = True from eq_true (by omega), show ((b : Int) ≥ 194) = False from eq_false (by omega), show ((b : Int) ≤ 223) = True from eq_true (by omega), show ((b : Int) = 224) = False from eq_false (by omega), show ((b : Int) = 237) = False from eq_false (by omega), show ((b : Int) ≥ 225) = False from eq_false (by omega), show ((b : Int) ≤ 239) = True from eq_true (by omega), show ((b : Int) ≠ 237) = True from eq_true (by omega), show ((b : Int) = 240) = False from eq_false (by omega), show ((b : Int) ≥ 241) = False from eq_false (by omega), show ((b : Int) ≤ 243) = True from eq_true (by omega), show ((b : Int) = 244) = False from eq_false (by omega), show (b < 128) = True from eq_true (by omega), show (194 ≤ b ∧ b ≤ 223) = False from eq_false (by omega), show (b = 224) = False from eq_false (by omega), show (b = 237) = False from eq_false (by omega), show (225 ≤ b ∧ b ≤ 239) = False from eq_false (by omega), show (b = 240) = False from eq_false (by omega), show (241 ≤ b ∧ b ≤ 243) = False from eq_false (by omega), show (b = 244) = False from eq_false (by omega), if_true, if_false, ite_self, Bool.false_eq_true]
  try (cases q1 <;> cases q2 <;> cases q3 <;> cases q4 <;> cases q5 <;> cases q6 <;> cases q7 <;> rfl)
 ·simp only [show ((b : Int) < 128) = False from eq_false (by omega), show ((b : Int) ≥ 194) = True from eq_true (by omega), show ((b : Int) ≤ 223) = True from eq_true (by omega), show ((b : Int) = 224) = False from eq_false (by omega), show ((b : Int) = 237) = False from eq_false (by omega), show ((b : Int) ≥ 225) = False from eq_false (by omega), show ((b : Int) ≤ 239) = True from eq_true (by omega), show ((b : Int) ≠ 237) = True from eq_true (by omega), show ((b : Int) = 240) = False from eq_false (by omega), show ((b : Int) ≥ 241) = False from eq_false (by omega), show ((b : Int) ≤ 243) = True from eq_true (by omega), show ((b : Int) = 244) = False from eq_false (by omega), show (b < 128) = False from eq_false (by omega), show (194 ≤ b ∧ b ≤ 223) = True from eq_true (by omega), show (b = 224) = False from eq_false (by omega), show (b = 237) = False from eq_false (by omega), show (225 ≤ b ∧ b ≤ 239) = False from eq_false (by omega), show (b = 240) = False from eq_false (by omega), show (241 ≤ b ∧ b ≤ 243) = False from eq_false (by omega), show (b = 244) = False from eq_false (by omega), if_true, if_false, ite_self, Bool.false_eq_true]
  try (cases q1 <;> cases q2 <;> cases q3 <;> cases q4 <;> cases q5 <;> cases q6 <;> cases q7 <;> rfl)
 ·simp only [show ((b : Int) < 128) = False from eq_false (by omega), show ((b : Int) ≥ 194) = True from eq_true (by omega), show ((b : Int) ≤ 223) = False from eq_false (by omega), show ((b : Int) = 224) = True from eq_true (by omega), show ((b : Int) = 237) = False from eq_false (by omega), show ((b : Int) ≥ 225) = False from eq_false (by omega), show ((b : Int) ≤ 239) = True from eq_true (by omega), show ((b : Int) ≠ 237) = True from eq_true (by omega), show ((b : Int) = 240) = False from eq_false (by omega), show ((b : Int) ≥ 241) = False from eq_false (by omega), show ((b : Int) ≤ 243) = True from eq_true (by omega), show ((b : Int) = 244) = False from eq_false (by omega), show (b < 128) = False from eq_false (by omega), show (194 ≤ b ∧ b ≤ 223) = False from eq_false (by omega), show (b = 224) = True from eq_true (by omega), show (b = 237) = False from eq_false (by omega), show (225 ≤ b ∧ b ≤ 239) = False from eq_false (by omega), show (b = 240) = False from eq_false (by omega), show (241 ≤ b ∧ b ≤ 243) = False from eq_false (by omega), show (b = 244) = False from eq_false (by omega), if_true, if_false, ite_self, Bool.false_eq_true]
  try (cases q1 <;> cases q2 <;> cases q3 <;> cases q4 <;> cases q5 <;> cases q6 <;> cases q7 <;> rfl)
 ·simp only [show ((b : Int) < 128) = False from eq_false (by omega), show ((b : Int) ≥ 194) = True from eq_true (by omega), show ((b : Int) ≤ 223) = False from eq_false (by omega), show ((b : Int) = 224) = False from eq_false (by omega), show ((b : Int) = 237) = True from eq_true (by omega), show ((b : Int) ≥ 225) = True from eq_true (by omega), show ((b : Int) ≤ 239) = True from eq_true (by omega), show ((b : Int) ≠ 237) = False from eq_false (by omega), show ((b : Int) = 240) = False from eq_false (by omega), show ((b : Int) ≥ 241) = False from eq_false (by omega), show ((b : Int) ≤ 243) = True from eq_true (by omega), show ((b : Int) = 244) = False from eq_false (by omega), show (b < 128) = False from eq_false (by omega), show (194 ≤ b ∧ b ≤ 223) = False from eq_false (by omega), show (b = 224) = False from eq_false (by omega), show (b = 237) = True from eq_true (by omega), show (225 ≤ b ∧ b ≤ 239) = True from eq_true (by omega), show (b = 240) = False from eq_false (by omega), show (241 ≤ b ∧ b ≤ 243) = False from eq_false (by omega), show (b = 244) = False from eq_false (by omega), if_true, if_false, ite_self, Bool.false_eq_true]
  try (cases q1 <;> cases q2 <;> cases q3 <;> cases q4 <;> cases q5 <;> cases q6 <;> cases q7 <;> rfl)
 ·simp only [show ((b : Int) < 128) = False from eq_false (by omega), show ((b : Int) ≥ 194) = True from eq_true (by omega), show ((b : Int) ≤ 223) = False from eq_false (by omega), show ((b : Int) = 224) = False from eq_false (by omega), show ((b : Int) = 237) = False from eq_false (by omega), show ((b : Int) ≥ 225) = True from eq_true (by omega), show ((b : Int) ≤ 239) = True from eq_true (by omega), show ((b : Int) ≠ 237) = True from eq_true (by omega), show ((b : Int) = 240) = False from eq_false (by omega), show ((b : Int) ≥ 241) = False from eq_false (by omega), show ((b : Int) ≤ 243) = True from eq_true (by omega), show ((b : Int) = 244) = False from eq_false (by omega), show (b < 128) = False from eq_false (by omega), show (194 ≤ b ∧ b ≤ 223) = False from eq_false (by omega), show (b = 224) = False from eq_false (by omega), show (b = 237) = False from eq_false (by omega), show (225 ≤ b ∧ b ≤ 239) = True from eq_true (by omega), show (b = 240) = False from eq_false (by omega), show (241 ≤ b ∧ b ≤ 243) = False from eq_false (by omega), show (b = 244) = False from eq_false (by omega), if_true, if_false, ite_self, Bool.false_eq_true]
  try (cases q1 <;> cases q2 <;> cases q3 <;> cases q4 <;> cases q5 <;> cases q6 <;> cases q7 <;> rfl)
 ·simp only [show ((b : Int) < 128) = False from eq_false (by omega), show ((b : Int) ≥ 194) = True from eq_true (by omega), show ((b : Int) ≤ 223) = False from eq_false (by omega), show ((b : Int) = 224) = False from eq_false (by omega), show ((b : Int) = 237) = False from eq_false (by omega), show ((b : Int) ≥ 225) = True from eq_true (by omega), show ((b : Int) ≤ 239) = False from eq_false (by omega), show ((b : Int) ≠ 237) = True from eq_true (by omega), show ((b : Int) = 240) = True from eq_true (by omega), show ((b : Int) ≥ 241) = False from eq_false (by omega), show ((b : Int) ≤ 243) = True from eq_true (by omega), show ((b : Int) = 244) = False from eq_false (by omega), show (b < 128) = False from eq_false (by omega), show (194 ≤ b ∧ b ≤ 223) = False from eq_false (by omega), show (b = 224) = False from eq_false (by omega), show (b = 237) = False from eq_false (by omega), show (225 ≤ b ∧ b ≤ 239) = False from eq_false (by omega), show (b = 240) = True from eq_true (by omega), show (241 ≤ b ∧ b ≤ 243) = False from eq_false (by omega), show (b = 244) = False from eq_false (by omega), if_true, if_false, ite_self, Bool.false_eq_true]
  try (cases q1 <;> cases q2 <;> cases q3 <;> cases q4 <;> cases q5 <;> cases q6 <;> cases q7 <;> rfl)
 ·simp only [show ((b : Int) < 128) = False from eq_false (by omega), show ((b : Int) ≥ 194) = True from eq_true (by omega), show ((b : Int) ≤ 223) = False from eq_false (by omega), show ((b : Int) = 224) = False from eq_false (by omega), show ((b : Int) = 237) = False from eq_false (by omega), show ((b : Int) ≥ 225) = True from eq_true (by omega), show ((b : Int) ≤ 239) = False from eq_false (by omega), show ((b : Int) ≠ 237) = True from eq_true (by omega), show ((b : Int) = 240) = False from eq_false (by omega), show ((b : Int) ≥ 241) = True from eq_true (by omega), show ((b : Int) ≤ 243) = True from eq_true (by omega), show ((b : Int) = 244) = False from eq_false (by omega), show (b < 128) = False from eq_false (by omega), show (194 ≤ b ∧ b ≤ 223) = False from eq_false (by omega), show (b = 224) = False from eq_false (by omega), show (b = 237) = False from eq_false (by omega), show (225 ≤ b ∧ b ≤ 239) = False from eq_false (by omega), show (b = 240) = False from eq_false (by omega), show (241 ≤ b ∧ b ≤ 243) = True from eq_true (by omega), show (b = 244) = False from eq_false (by omega), if_true, if_false, ite_self, Bool.false_eq_true]
  try (cases q1 <;> cases q2 <;> cases q3 <;> cases q4 <;> cases q5 <;> cases q6 <;> cases q7 <;> rfl)
 ·simp only [show ((b : Int) < 128) = False from eq_false (by omega), show ((b : Int) ≥ 194) = True from eq_true (by omega), show ((b : Int) ≤ 223) = False from eq_false (by omega), show ((b : Int) = 224) = False from eq_false (by omega), show ((b : Int) = 237) = False from eq_false (by omega), show ((b : Int) ≥ 225) = True from eq_true (by omega), show ((b : Int) ≤ 239) = False from eq_false (by omega), show ((b : Int) ≠ 237) = True from eq_true (by omega), show ((b : Int) = 240) = False from eq_false (by omega), show ((b : Int) ≥ 241) = True from eq_true (by omega), show ((b : Int) ≤ 243) = False from eq_false (by omega), show ((b : Int) = 244) = True from eq_true (by omega), show (b < 128) = False from eq_false (by omega), show (194 ≤ b ∧ b ≤ 223) = False from eq_false (by omega), show (b = 224) = False from eq_false (by omega), show (b = 237) = False from eq_false (by omega), show (225 ≤ b ∧ b ≤ 239) = False from eq_false (by omega), show (b = 240) = False from eq_false (by omega), show (241 ≤ b ∧ b ≤ 243) = False from eq_false (by omega), show (b = 244) = True from eq_true (by omega), if_true, if_false, ite_self, Bool.false_eq_true]
  try (cases q1 <;> cases q2 <;> cases q3 <;> cases q4 <;> cases q5 <;> cases q6 <;> cases q7 <;> rfl)
 ·simp only [show ((b : Int) < 128) = False from eq_false (by omega), show ((b : Int) ≥ 194) = False from eq_false (by omega), show ((b : Int) ≤ 223) = True from eq_true (by omega), show ((b : Int) = 224) = False from eq_false (by omega), show ((b : Int) = 237) = False from eq_false (by omega), show ((b : Int) ≥ 225) = False from eq_false (by omega), show ((b : Int) ≤ 239) = True from eq_true (by omega), show ((b : Int) ≠ 237) = True from eq_true (by omega), show ((b : Int) = 240) = False from eq_false (by omega), show ((b : Int) ≥ 241) = False from eq_false (by omega), show ((b : Int) ≤ 243) = True from eq_true (by omega), show ((b : Int) = 244) = False from eq_false (by omega), show (b < 128) = False from eq_false (by omega), show (194 ≤ b ∧ b ≤ 223) = False from eq_false (by omega), show (b = 224) = False from eq_false (by omega), show (b = 237) = False from eq_false (by omega), show (225 ≤ b ∧ b ≤ 239) = False from eq_false (by omega), show (b = 240) = False from eq_false (by omega), show (241 ≤ b ∧ b ≤ 243) = False from eq_false (by omega), show (b = 244) = False from eq_false (by omega), if_true, if_false, ite_self, Bool.false_eq_true]
  try (cases q1 <;> cases q2 <;> cases q3 <;> cases q4 <;> cases q5 <;> cases q6 <;> cases q7 <;> rfl)
 ·simp only [show ((b : Int) < 128) = False from eq_false (by omega), show ((b : Int) ≥ 194) = True from eq_true (by omega), show ((b : Int) ≤ 223) = False from eq_false (by omega), show ((b : Int) = 224) = False from eq_false (by omega), show ((b : Int) = 237) = False from eq_false (by omega), show ((b : Int) ≥ 225) = True from eq_true (by omega), show ((b : Int) ≤ 239) = False from eq_false (by omega), show ((b : Int) ≠ 237) = True from eq_true (by omega), show ((b : Int) = 240) = False from eq_false (by omega), show ((b : Int) ≥ 241) = True from eq_true (by omega), show ((b : Int) ≤ 243) = False from eq_false (by omega), show ((b : Int) = 244) = False from eq_false (by omega), show (b < 128) = False from eq_false (by omega), show (194 ≤ b ∧ b ≤ 223) = False from eq_false (by omega), show (b = 224) = False from eq_false (by omega), show (b = 237) = False from eq_false (by omega), show (225 ≤ b ∧ b ≤ 239) = False from eq_false (by omega), show (b = 240) = False from eq_false (by omega), show (241 ≤ b ∧ b ≤ 243) = False from eq_false (by omega), show (b = 244) = False from eq_false (by omega), if_true, if_false, ite_self, Bool.false_eq_true]
  try (cases q1 <;> cases q2 <;> cases q3 <;> cases q4 <;> cases q5 <;> cases q6 <;> cases q7 <;> rfl)

end
end Go.Av
namespace Go.Av
noncomputable section
open Go.Proofs
set_option maxRecDepth 100000
theorem Quv (s : List UInt8) : cpN s ≤ 4 := by
 unfold cpN
 split
 ·omega
 ·repeat' split
  all_goals omega
theorem Qo2 (N : Nat) (s : List UInt8) (hb : s.length < 4611686018427387000) : ∀ (n i : Nat), s.length - i < n → i ≤ s.length + 4 → Xm N s n (i : Int) = some (Ud (s.drop i))
 | 0, i, h, _ => by omega
 | n + 1, i, h, hi => by
  simp only [Xm, Q6, Xo, Wb]
  by_cases h1 : i < s.length
  ·rw [if_pos (by omega), Qt7 N s i (by omega) h1]
   simp only [Option.bind_some]
   have h4 := Quv (s.drop i)
   have hne : s.drop i ≠ [] := by
    intro e
    have := congrArg List.length e
    rw [List.length_drop] at this
    simp at this; omega
   cases hc : cpN (s.drop i) with
   | zero =>
    rw [if_pos (by rfl), Q5g _ hne hc]
   | succ k =>
    rw [if_neg (by omega), Qq _ (by omega), Q3n _ k hc, List.drop_drop]
    have := Qo2 N s hb n (i + (k + 1)) (by omega) (by omega)
    rw [show ((i : Int) + ((k + 1 : Nat) : Int)) = ((i + (k + 1) : Nat) : Int) by push_cast; rfl]
    exact this
  ·rw [if_neg (by omega), List.drop_of_length_le (by omega)]; rfl
theorem Qte (N : Nat) (s : List UInt8) (hb : s.length < 4611686018427387000) (h : s.length < N) : Zp N s = some (Ud s) := by
 have := Qo2 N s hb N 0 (by omega) (by omega)
 unfold Zp
 simpa using this
theorem Qja (N : Nat) (s : List UInt8) (hb : s.length < 4611686018427387000) : ∀ (n i : Nat), s.length - i < n → i ≤ s.length → Yx N s n (i : Int) = some (Q55 (s.drop i))
 | 0, i, h, _ => by omega
 | n + 1, i, h, hi => by
  simp only [Yx, Q6, Xo, Qay, Yb]
  by_cases h1 : i < s.length
  ·rw [if_pos (by omega), List.getElem?_eq_getElem h1]
   simp only [Option.bind_some]
   by_cases h2 : s[i].toNat < 128
   ·rw [if_neg (by omega), Qq _ (by omega), Qao _ _ h1 h2]
    exact_mod_cast Qja N s hb n (i + 1) (by omega) (by omega)
   ·rw [if_pos (by omega)]
    have : Q55 (s.drop i) = false := by
     rw [List.drop_eq_getElem_cons h1]
     simp only [Q55, List.all_cons, decide_eq_false h2, Bool.false_and]
    rw [this]
  ·rw [if_neg (by omega), List.drop_of_length_le (by omega)]; rfl
theorem Qps (N : Nat) (s : List UInt8) (hb : s.length < 4611686018427387000) (h : s.length < N) : Qn N s = some (Q55 s) := by
 have := Qja N s hb N 0 (by omega) (by omega)
 unfold Qn
 simpa using this
theorem Q8d (N : Nat) (n b : Int) (hn : okU n) (hb : b = 8 ∨ b = 16 ∨ b = 32) : Zl N n b = some (Q0a n b true) := by
 obtain ⟨h0, h1⟩ := hn
 unfold Zl Q0a s64
 simp only [Q6, Xo]
 rcases hb with rfl | rfl | rfl
 ·rw [if_pos (by decide), show Gb .u64 1 (IntKind.u64.wrap (8 - 1)) = 128 by decide, show IntKind.u64.wrap (0 - 128) = 18446744073709551488 by decide]
  simp only [if_true, Q5]
  split
  ·rename_i h; rw [decide_eq_true]; simp; split <;> omega
  ·rename_i h; rw [Option.some.injEq, decide_eq_decide]; simp; split <;> omega
 ·rw [if_pos (by decide), show Gb .u64 1 (IntKind.u64.wrap (16 - 1)) = 32768 by decide, show IntKind.u64.wrap (0 - 32768) = 18446744073709518848 by decide]
  simp only [if_true, Q5]
  split
  ·rename_i h; rw [decide_eq_true]; simp; split <;> omega
  ·rename_i h; rw [Option.some.injEq, decide_eq_decide]; simp; split <;> omega
 ·rw [if_pos (by decide), show Gb .u64 1 (IntKind.u64.wrap (32 - 1)) = 2147483648 by decide, show IntKind.u64.wrap (0 - 2147483648) = 18446744071562067968 by decide]
  simp only [if_true, Q5]
  split
  ·rename_i h; rw [decide_eq_true]; simp; split <;> omega
  ·rename_i h; rw [Option.some.injEq, decide_eq_decide]; simp; split <;> omega
theorem kinds {k : Int} (h : 1 ≤ k ∧ k ≤ 21) : k = 1 ∨ k = 2 ∨ k = 3 ∨ k = 4 ∨ k = 5 ∨ k = 6 ∨ k = 7 ∨ k = 8 ∨ k = 9 ∨ k = 10 ∨ k = 11 ∨ k = 12 ∨ k = 13 ∨ k = 14 ∨ k = 15 ∨ k = 16 ∨ k = 17 ∨ k = 18 ∨ k = 19 ∨ k = 20 ∨ k = 21 := by omega
theorem rZ (n : Int) (h : okU n) : (some (Q5 .eql n 0) : Option Bool) = some (Q0a n 0 false) := by
 have := h.1
 simp only [Q0a, Option.some.injEq, Q5, Bool.false_eq_true, if_false]
 rw [Bool.eq_iff_iff]
 simp; omega
theorem rU (n b B : Int) (hb : IntKind.u64.wrap b = b) (h0 : 0 ≤ b) (hB : Gb .u64 1 b = B) (h2 : B = 2 ^ b.toNat) : (if decide (0 ≤ IntKind.u64.wrap b) = true then some (Q5 .lss n (Gb .u64 1 (IntKind.u64.wrap b))) else none) = some (Q0a n b false) := by
 rw [hb, if_pos (by simpa using h0), hB, h2]
 simp [Q0a, Q5]
theorem r64 (n : Int) (h : okU n) : (some true : Option Bool) = some (Q0a n 64 false) := by
 have := h.2
 simp only [Q0a, Bool.false_eq_true, if_false]
 rw [decide_eq_true]; simpa using this
theorem Z0j (n : Int) (h : okU n) : (some true : Option Bool) = some (Q0a n 64 true) := by
 have h1 := h.1
 have h2 := h.2
 unfold Q0a s64
 simp only [if_true]
 rw [decide_eq_true]
 simp
 split <;> omega
theorem Qmp (N : Nat) (v : Q0) (hn : okU v.N') (hk : 1 ≤ v.Kind ∧ v.Kind ≤ 21) : W5 N v = some (Q7b v.Kind v.N') := by
 obtain ⟨k, n, t, is⟩ := v
 simp only at hn hk
 have z := rZ n hn
 have u8 := rU n 8 256 (by decide) (by decide) (by decide) (by decide)
 have u1 := rU n 1 2 (by decide) (by decide) (by decide) (by decide)
 have u16 := rU n 16 65536 (by decide) (by decide) (by decide) (by decide)
 have u32 := rU n 32 4294967296 (by decide) (by decide) (by decide) (by decide)
 have u64 := r64 n hn
 have s64' := Z0j n hn
 have s8 := Q8d N n 8 hn (by simp)
 have s16 := Q8d N n 16 hn (by simp)
 have s32 := Q8d N n 32 hn (by simp)
 have w8 : IntKind.u64.wrap (IntKind.i64.wrap (0 - -8)) = 8 := by decide
 have w16 : IntKind.u64.wrap (IntKind.i64.wrap (0 - -16)) = 16 := by decide
 have w32 : IntKind.u64.wrap (IntKind.i64.wrap (0 - -32)) = 32 := by decide
 have tr : ∀ b : Bool, (b && true) = b := by decide
 simp only [W5, Q7b]
 rcases kinds hk with rfl | rfl | rfl | rfl | rfl | rfl | rfl | rfl | rfl | rfl | rfl | rfl | rfl | rfl | rfl | rfl | rfl | rfl | rfl | rfl | rfl
 ·show _ = some (_ && true); rw [tr]; exact z
 ·show _ = some (_ && true); rw [tr]; simp only [show Qk N 2 = some 1 from rfl, Option.bind_some, Q6]; exact u1
 ·show _ = some (_ && true); rw [tr]; simp only [show Qk N 3 = some 8 from rfl, Option.bind_some, Q6]; exact u8
 ·show _ = some (_ && true); rw [tr]; simp only [show Qk N 4 = some 16 from rfl, Option.bind_some, Q6]; exact u16
 ·show _ = some (_ && true); rw [tr]; simp only [show Qk N 5 = some 32 from rfl, Option.bind_some, Q6]; exact u32
 ·show _ = some (_ && true); rw [tr]; exact u64
 ·show _ = some (_ && true); rw [tr]
  simp only [show Qk N 7 = some (-8) from rfl, Option.bind_some, Q6, w8, s8]; rfl
 ·show _ = some (_ && true); rw [tr]
  simp only [show Qk N 8 = some (-16) from rfl, Option.bind_some, Q6, w16, s16]; rfl
 ·show _ = some (_ && true); rw [tr]
  simp only [show Qk N 9 = some (-32) from rfl, Option.bind_some, Q6, w32, s32]; rfl
 ·show _ = some (_ && true); rw [tr]; exact s64'
 ·show _ = some (_ && true); rw [tr]; simp only [show Qk N 11 = some 32 from rfl, Option.bind_some, Q6]; exact u32
 ·show _ = some (_ && true); rw [tr]; exact u64
 ·show _ = some (_ && true); rw [tr]; simp only [show Qk N 13 = some 32 from rfl, Option.bind_some, Q6]; exact u32
 ·show _ = some (_ && true); rw [tr]; exact u64
 ·show _ = some (_ && true); rw [tr]; exact z
 ·show _ = some (_ && Qcv n)
  have e : U9 N n = some (Qcv n) := by
   unfold U9 Qcv
   simp only [Q6, Q74, Xo]
   split
   ·split
    ·rw [decide_eq_true (by omega)]
    ·simp only [Q5, Option.some.injEq, decide_eq_decide]; omega
   ·rw [decide_eq_false (by omega)]
  simp only [show Qk N 16 = some 32 from rfl, Option.bind_some, e]
  show some (Qcv n) = _
  have h0 := hn.1
  cases hc : Qcv n with
  | false => rw [Bool.and_false]
  | true =>
   rw [Bool.and_true]
   unfold Qcv at hc
   simp only [decide_eq_true_eq] at hc
   simp only [show Ji 16 = (32, false) from rfl, Q0a, Bool.false_eq_true, if_false]
   rw [decide_eq_true]
   simp; omega
 ·show _ = some (_ && true); rw [tr]; exact s64'
 ·show _ = some (_ && true); rw [tr]; exact z
 ·show _ = some (_ && true); rw [tr]; exact z
 ·show _ = some (_ && true); rw [tr]; exact z
 ·show _ = some (_ && true); rw [tr]; exact z
theorem Qr4 (N : Nat) (k : Int) (h : k ≤ 21) : Wj N k = some (Q1p k) := by
 unfold Wj Q1p
 simp only [Q6, Wb, Qay]
 split
 ·rename_i h1; simp [h1]
 split
 ·simp only [Q5, Option.some.injEq, decide_eq_decide]; omega
 ·rw [decide_eq_false (by omega)]
theorem Qsl (v : Q0) : (((Q0.rows v.Items).length : Int) > 0) = (v.Items ≠ []) := by
 rw [Z9]
 apply propext
 cases v.Items <;> simp
theorem Q45 (N : Nat) (v : Q0) (hn : okU v.N') (h : v.Text.length < N) (hb : v.Text.length < 4611686018427387000) : Qw N v = some (V6 v) := by
 simp only [Qw, Q6, Wb, Xo, Q37, Ub, Gg, Qte N v.Text hb h, Qps N v.Text hb h, Qsl, Option.bind_some]
 have e3 : ((v.Text.length : Int) ≠ 16) = (v.Text.length ≠ 16) := by apply propext; omega
 have e4 : ((1048576 : Int) < v.Text.length) = (1048576 < v.Text.length) := by apply propext; omega
 have e4' : ((v.Text.length : Int) > 1048576) = (1048576 < v.Text.length) := by apply propext; omega
 simp only [e3, e4, gt_iff_lt]
 unfold V6
 by_cases h1 : v.Kind < 1
 ·rw [if_pos (show v.Kind < 1 ∨ 21 < v.Kind from .inl h1), if_neg (show ¬ v.Kind = 15 by omega), if_pos h1]
 by_cases h2 : 21 < v.Kind
 ·rw [if_pos (show v.Kind < 1 ∨ 21 < v.Kind from .inr h2), if_neg (show ¬ v.Kind = 15 by omega), if_neg h1, if_pos h2]
 rw [if_neg (show ¬ (v.Kind < 1 ∨ 21 < v.Kind) by omega)]
 simp only [h1, h2, if_false, Qmp N v hn (show 1 ≤ v.Kind ∧ v.Kind ≤ 21 by omega), Qr4 N v.Kind (show v.Kind ≤ 21 by omega), Option.bind_some]
 cases ho : Q7b v.Kind v.N' with
 | false => simp
 | true =>
  simp only [Bool.not_true, Bool.false_eq_true, if_false, Bool.true_eq_false, false_or]
  by_cases hi : v.Items = []
  ·simp only [hi, ne_eq, not_true_eq_false, if_false]
   by_cases h15 : v.Kind = 15
   ·have ht : Q1p 15 = true := rfl
    simp only [ht, h15, if_true, Bool.not_true, Bool.false_eq_true, if_false, Bool.true_eq_false, true_or, true_and, show ¬ ((15 : Int) = 20) by decide, show ¬ ((15 : Int) = 21) by decide, Qg7]
    by_cases hl : v.Text.length = 16 <;> simp [hl]
   ·by_cases h18 : v.Kind = 18
    ·have ht : Q1p 18 = true := rfl
     simp only [ht, h18, if_true, Bool.not_true, Bool.false_eq_true, if_false, Bool.true_eq_false, or_true, true_and, show ¬ ((18 : Int) = 20) by decide, show ¬ ((18 : Int) = 21) by decide, show ¬ ((18 : Int) = 15) by decide, Qg7]
     by_cases hl : v.Text.length = 16 <;> simp [hl]
    ·by_cases h20 : v.Kind = 20
     ·have ht : Q1p 20 = true := rfl
      simp only [ht, h20, if_true, Bool.not_true, Bool.false_eq_true, if_false, Bool.true_eq_false, show ¬ ((20 : Int) = 18) by decide, show ¬ ((20 : Int) = 21) by decide, show ¬ ((20 : Int) = 15) by decide, Qg7, or_self, false_and]
      cases Ud v.Text <;> split <;> simp_all
     ·by_cases h21 : v.Kind = 21
      ·have ht : Q1p 21 = true := rfl
       simp only [ht, h21, if_true, Bool.not_true, Bool.false_eq_true, if_false, Bool.true_eq_false, show ¬ ((21 : Int) = 18) by decide, show ¬ ((21 : Int) = 20) by decide, show ¬ ((21 : Int) = 15) by decide, Qg7, or_self, false_and]
       cases Q55 v.Text <;> split <;> simp_all
      ·simp only [h15, h18, h20, h21, if_false, or_self, false_and, Qg7]
       cases ht : Q1p v.Kind with
       | false =>
        simp only [Bool.not_false, if_true]
        by_cases htt : v.Text = [] <;> simp [htt]
       | true =>
        simp only [Bool.not_true, Bool.false_eq_true, if_false, Bool.true_eq_false]
        split <;> rfl
  ·simp [hi]
end
end Go.Av
namespace Go.Av
noncomputable section
open Go.Proofs
set_option maxRecDepth 100000
def Qoe (k : Nat) : Bool := (Vs k).2.2.2.2 || (Vs k).2.2.2.1 || !decide ((Vs k).2.2.1 = 1) || decide (((Vs k).1 = 80 ∧ (Vs k).2.1 = 3) ∨ ((Vs k).1 = 81 ∧ (Vs k).2.1 = 7) ∨ ((Vs k).1 = 82 ∧ (Vs k).2.1 = 5) ∨ ((Vs k).1 = 83 ∧ (Vs k).2.1 = 6) ∨ ((Vs k).1 = 84 ∧ (Vs k).2.1 = 9) ∨ ((Vs k).1 = 85 ∧ (Vs k).2.1 = 10) ∨ ((Vs k).1 = 86 ∧ (Vs k).2.1 = 2))
theorem Qli : ((List.range 40).all Qoe) = true := by decide +kernel
def Qzi (k : Nat) : Bool := decide ((Vs k).2.1 = 17 → (Vs k).2.2.1 = 8)
theorem Qub : ((List.range 40).all Qzi) = true := by decide +kernel
theorem Qiz {P : Int × Int × Int × Bool × Bool → Prop} {B : Nat → Bool} (hB : ((List.range 40).all B) = true) (hP : ∀ k, B k = true → P (Vs k)) {code : Int} (h : ofB code = true) : P (ofT code) := by
 have h1 : bsI code < 40 ∧ Gs (bsI code) = code := by simpa [ofB] using h
 have := List.all_eq_true.1 hB (bsI code) (by simpa using h1.1)
 have e : ofT code = Vs (bsI code) := by unfold ofT; rw [if_pos h]
 rw [e]; exact hP _ this
theorem Qvj {code : Int} (h : ofB code = true) (hi : (ofS code).Items = false) (hs : (ofS code).Sized = false) (hw : (ofS code).Width = 1) :
  (code = 80 ∧ (ofS code).Kind = 3) ∨ (code = 81 ∧ (ofS code).Kind = 7) ∨ (code = 82 ∧ (ofS code).Kind = 5) ∨ (code = 83 ∧ (ofS code).Kind = 6) ∨ (code = 84 ∧ (ofS code).Kind = 9) ∨ (code = 85 ∧ (ofS code).Kind = 10) ∨ (code = 86 ∧ (ofS code).Kind = 2) := by
 have hc := (Qbs code h).code
 have := Qiz (P := fun t => t.2.2.2.2 = false → t.2.2.2.1 = false → t.2.2.1 = 1 → (t.1 = 80 ∧ t.2.1 = 3) ∨ (t.1 = 81 ∧ t.2.1 = 7) ∨ (t.1 = 82 ∧ t.2.1 = 5) ∨ (t.1 = 83 ∧ t.2.1 = 6) ∨ (t.1 = 84 ∧ t.2.1 = 9) ∨ (t.1 = 85 ∧ t.2.1 = 10) ∨ (t.1 = 86 ∧ t.2.1 = 2)) Qli (fun k hk h1 h2 h3 => by
  simp only [Qoe, h1, h2, h3, Bool.false_or, decide_true, Bool.not_true, decide_eq_true_eq] at hk
  exact hk) h
 have h2 := this hi hs hw
 have hc' : (ofT code).1 = code := hc
 rw [hc'] at h2
 exact h2
theorem Qwo {code : Int} (h : ofB code = true) (hk : (ofS code).Kind = 17) : (ofS code).Width = 8 :=
 Qiz (P := fun t => t.2.1 = 17 → t.2.2.1 = 8) Qub (fun _k hk => of_decide_eq_true hk) h hk
theorem o8x : ((List.range 4).all fun j => decide ((ofS (82 + (j : Int))).Sized = false ∧ (ofS (82 + (j : Int))).Width = 1)) = true := by decide +kernel
theorem Qpa {code : Int} (h : code = 82 ∨ code = 83 ∨ code = 84 ∨ code = 85) : (ofS code).Sized = false ∧ (ofS code).Width = 1 := by
 have := List.all_eq_true.1 o8x (code - 82).toNat (by simp; omega)
 simp only [decide_eq_true_eq] at this
 rwa [show ((82 : Int) + ((code - 82).toNat : Nat)) = code by omega] at this
theorem Qdk (N : Nat) (code : Int) (v : Q0) (hn : okU v.N') (h : v.Text.length < N) (hb : v.Text.length < 4611686018427387000) (hN : 50 < N) : V2 N code v = some (Q1q code v) := by
 simp only [V2, Q2y N code hN, Option.bind_some, Q6, Q45 N v hn h hb, Ub, Wb, Q8d N v.N' 8 hn (by simp), Q1q]
 cases hob : ofB code with
 | false => rfl
 | true =>
  simp only [Bool.not_true, Bool.false_eq_true, if_false, Bool.true_and]
  by_cases hk : (ofS code).Kind = v.Kind
  ·rw [if_neg (show ¬ ((ofS code).Kind ≠ v.Kind) by simp [hk]), decide_eq_true hk, Bool.true_and]
   by_cases hc : V6 v = 0
   ·rw [if_neg (show ¬ (V6 v ≠ 0) by simp [hc]), decide_eq_true hc, Bool.true_and]
    obtain ⟨c1, c2, c3, c4, c5, c6, c7⟩ := Jd hc
    have hw := Qbs code hob
    have hi := Gr hw (by omega)
    have hcd := hw.code
    unfold Q58
    rw [hcd]
    by_cases h65 : code = 65
    ·rw [if_pos h65, if_pos h65]; rfl
    rw [if_neg h65, if_neg h65]
    cases hw.shape hi with
    | sized w hs hw' h12 hk2 hcc =>
     rw [if_neg (show ¬ (ofS code).Width = 0 by omega), hs, if_pos rfl, if_pos rfl, hw']
     have n8 : ∀ c : Int, c = 82 ∨ c = 83 ∨ c = 84 ∨ c = 85 → code ≠ c := fun c hc e => by
      subst e
      have := (Qpa hc).1
      rw [hs] at this; cases this
     rw [if_neg (n8 82 (by simp)), if_neg (n8 83 (by simp)), if_neg (n8 84 (by simp)), if_neg (n8 85 (by simp))]
     rcases h12 with rfl | rfl
     ·rw [if_pos (by decide)]; simp only [Q5, Option.some.injEq, decide_eq_decide]; omega
     ·rw [if_neg (by decide)]; rfl
    | wide hs hw' hk2 hcc =>
     have n8 : ∀ c : Int, c = 82 ∨ c = 83 ∨ c = 84 ∨ c = 85 → code ≠ c := fun c hc e => by
      subst e
      have := (Qpa hc).2
      omega
     rw [hs, hw']
     simp only [n8 82 (by simp), n8 83 (by simp), n8 84 (by simp), n8 85 (by simp), if_false, Bool.false_eq_true, show ¬ ((16 : Int) = 0) by decide, show ¬ ((16 : Int) = 1) by decide]
    | num w hs hw' hh ht hcc hbb =>
     rw [hs, if_neg (show ¬ (false = true) by simp), if_neg (show ¬ (false = true) by simp)]
     by_cases h0 : (ofS code).Width = 0
     ·rw [if_pos h0, if_pos h0]; rfl
     rw [if_neg h0, if_neg h0]
     by_cases h1 : (ofS code).Width = 1
     ·rw [if_pos h1]
      have ok1 : Q0a v.N' (Ji v.Kind).1 (Ji v.Kind).2 = true := by
       simp only [Q7b, Bool.and_eq_true] at c3; exact c3.1
      rw [← hk] at ok1
      rcases Qvj hob hi hs h1 with ⟨e1, e2⟩ | ⟨e1, e2⟩ | ⟨e1, e2⟩ | ⟨e1, e2⟩ | ⟨e1, e2⟩ | ⟨e1, e2⟩ | ⟨e1, e2⟩
      ·rw [e2] at ok1 ⊢
       simp only [e1, show ¬ ((80 : Int) = 82) by decide, show ¬ ((80 : Int) = 83) by decide, show ¬ ((80 : Int) = 84) by decide, show ¬ ((80 : Int) = 85) by decide, if_false]
       exact congrArg some ok1.symm
      ·rw [e2] at ok1 ⊢
       simp only [e1, show ¬ ((81 : Int) = 82) by decide, show ¬ ((81 : Int) = 83) by decide, show ¬ ((81 : Int) = 84) by decide, show ¬ ((81 : Int) = 85) by decide, if_false]
       exact congrArg some ok1.symm
      ·rw [e2, e1, if_pos rfl]; rfl
      ·rw [e2, e1, if_neg (by decide), if_pos rfl]; rfl
      ·rw [e2, e1, if_neg (by decide), if_neg (by decide), if_pos rfl]; rfl
      ·rw [e2, e1, if_neg (by decide), if_neg (by decide), if_neg (by decide), if_pos rfl]; rfl
      ·rw [e2] at ok1 ⊢
       simp only [e1, show ¬ ((86 : Int) = 82) by decide, show ¬ ((86 : Int) = 83) by decide, show ¬ ((86 : Int) = 84) by decide, show ¬ ((86 : Int) = 85) by decide, if_false]
       have : Q0a v.N' 8 false = true := by
        simp only [show Ji 2 = (1, false) from rfl, Q0a, Bool.false_eq_true, if_false, decide_eq_true_eq] at ok1 ⊢
        simp at ok1 ⊢; omega
       exact congrArg some this.symm
     ·rw [if_neg h1]
      have n8 : ∀ c : Int, c = 82 ∨ c = 83 ∨ c = 84 ∨ c = 85 → code ≠ c := fun c hc e => by
       subst e
       exact h1 (Qpa hc).2
      rw [if_neg (n8 82 (by simp)), if_neg (n8 83 (by simp)), if_neg (n8 84 (by simp)), if_neg (n8 85 (by simp))]
   ·rw [if_pos (show V6 v ≠ 0 from hc), decide_eq_false hc]; rfl
  ·rw [if_pos (show (ofS code).Kind ≠ v.Kind from hk), decide_eq_false hk]; rfl
theorem Qsb (N w : Nat) (hw : w ≤ 8) : ∀ (k i n : Nat) (out : List UInt8), n < 18446744073709551616 → i ≤ w → w - i < k → out.length ≤ i → W2 N (w : Int) k (n : Int) out (i : Int) = some (Q1a n (w - i) ++ out)
 | 0, i, n, out, _, _, h, _ => by omega
 | k + 1, i, n, out, hn, hi, hk, ho => by
  simp only [W2, Q6, Xo]
  by_cases h : i < w
  ·rw [if_pos (by omega), if_pos (by simp [Nat.ble_eq]; omega), Qq _ (by omega)]
   have e1 : Q2s .u64 (n : Int) 8 = ((n / 256 : Nat) : Int) := by
    simp only [Q2s]
    rw [show min (Int.toNat 8) IntKind.u64.bits = 8 from rfl, Int.fdiv_eq_ediv_of_nonneg _ (by decide)]
    push_cast; rfl
   have e2 : UInt8.ofNat (IntKind.u8.wrap (n : Int)).toNat = UInt8.ofNat (n % 256) := by
    rw [Qss]; congr 1
   have := Qsb N w hw k (i + 1) (n / 256) (UInt8.ofNat (n % 256) :: out) (by omega) (by omega) (by omega) (by simp; omega)
   rw [e1, e2, show ((i : Int) + 1) = ((i + 1 : Nat) : Int) by push_cast; rfl, List.singleton_append, this]
   obtain ⟨m, hm⟩ : ∃ m, w - i = m + 1 := ⟨w - i - 1, by omega⟩
   rw [hm, show w - (i + 1) = m by omega, Q1a]
   simp
  ·rw [if_neg (by omega), show w - i = 0 by omega]; rfl
theorem Qkg (N n w : Nat) (hn : n < 18446744073709551616) (hw : w ≤ 8) (hN : 10 < N) : Xd N (n : Int) (w : Int) = some (Q1a n w) := by
 have := Qsb N w hw N 0 n [] hn (by omega) (by omega) (by simp)
 unfold Xd
 rw [show (0 : Int) = ((0 : Nat) : Int) from rfl, this]; simp
theorem Qmi (N : Nat) (code : Int) (v : Q0) (hn : okU v.N') (h : v.Text.length < N) (hb : v.Text.length < 4611686018427387000) (hN : 50 < N) : Us N code v = some (Qpk code v) := by
 simp only [Us, Q45 N v hn h hb, Qdk N code v hn h hb hN, Q2y N code hN, Option.bind_some, Q6, Ub, Wb, Qpk]
 by_cases h1 : V6 v = 0
 ·rw [if_neg (show ¬ (V6 v ≠ 0) by simp [h1]), if_neg (show ¬ (V6 v ≠ 0) by simp [h1])]
  cases hf : Q1q code v with
  | false => rfl
  | true =>
   obtain ⟨f1, f2, f3, f4⟩ := Q2c hf
   obtain ⟨c1, c2, c3, c4, c5, c6, c7⟩ := Jd f3
   have hw := Qbs code f1
   have hi := Gr hw (by omega)
   simp only [Bool.not_true, Bool.false_eq_true, if_false, Bool.true_eq_false]
   generalize ofS code = c at *
   unfold Q0z
   cases hw.shape hi with
   | sized w hs hw' h12 hk hc =>
    rw [hs, hw', Q7c _ (by omega), Qkg N _ w (by omega) (by omega) (by omega)]
    simp only [if_true, Option.bind_some, Int.toNat_natCast]
    rw [if_pos (by simp [Nat.ble_eq, Uw]; omega)]
   | wide hs hw' hk hc => rw [hs, hw']; rfl
   | num w hs hw' hh ht hc hbb =>
    have e : v.N' = ((v.N'.toNat : Nat) : Int) := by have := hn.1; omega
    have hlt : v.N'.toNat < 18446744073709551616 := by have := hn.2; have := hn.1; omega
    rw [hs, hw', e, Qkg N _ w hlt (by omega) (by omega)]
    simp only [Bool.false_eq_true, if_false, Option.bind_some, Int.toNat_natCast]
    rw [if_neg (by omega), if_neg (by omega)]
 ·rw [if_pos (show V6 v ≠ 0 from h1), if_pos (show V6 v ≠ 0 from h1)]
theorem Qrs (N : Nat) (s : List UInt8) (hl : s.length ≤ 8) : ∀ (k i : Nat), i ≤ s.length → s.length - i < k → Yk N s k (Q1r (s.take i) : Nat) (i : Int) = some ((Q1r s : Nat) : Int)
 | 0, i, h, h2 => by omega
 | k + 1, i, h, h2 => by
  simp only [Yk, Q6, Xo]
  by_cases hi : i < s.length
  ·rw [if_pos (by omega), Yb, List.getElem?_eq_getElem hi]
   simp only [Option.bind_some]
   have h3 := Q2e (s.take i)
   have h4 : 256 ^ (s.take i).length ≤ 256 ^ 7 := Nat.pow_le_pow_right (by omega) (by rw [List.length_take]; omega)
   have h5 : (256 : Nat) ^ 7 = 72057594037927936 := rfl
   rw [Qgv _ _ (by omega) s[i].toNat_lt, ← Qh7 s i hi, Qq _ (by omega)]
   exact_mod_cast Qrs N s hl k (i + 1) (by omega) (by omega)
  ·rw [if_neg (by omega), List.take_of_length_le (by omega)]
theorem Qj7 (N : Nat) (s : List UInt8) (hl : s.length ≤ 8) (hN : 10 < N) : Y3 N s = some ((Q1r s : Nat) : Int) := by
 unfold Y3
 exact Qrs N s hl N 0 (by omega) (by omega)
end
end Go.Av
namespace Go.Av
noncomputable section
open Go.Proofs
set_option maxRecDepth 100000
theorem Qit (N : Nat) (k : Int) (h : (Ji k).2 = false) : ∃ b, Qk N k = some b ∧ ¬ b < 0 ∧ k ≠ 10 := by
 by_cases hk : 1 ≤ k ∧ k ≤ 21
 ·rcases kinds hk with rfl | rfl | rfl | rfl | rfl | rfl | rfl | rfl | rfl | rfl | rfl | rfl | rfl | rfl | rfl | rfl | rfl | rfl | rfl | rfl | rfl <;>
   first | (exact absurd h (by decide)) | exact ⟨_, rfl, by decide, by decide⟩
 ·refine ⟨0, ?_, by decide, by omega⟩
  unfold Qk
  simp only [Q6, Wb]
  simp only [show ¬ k = 2 by omega, show ¬ k = 3 by omega, show ¬ k = 4 by omega, show ¬ k = 5 by omega, show ¬ k = 11 by omega, show ¬ k = 13 by omega, show ¬ k = 16 by omega, show ¬ k = 6 by omega, show ¬ k = 12 by omega, show ¬ k = 14 by omega, show ¬ k = 17 by omega, show ¬ k = 10 by omega, show ¬ k = 7 by omega, show ¬ k = 8 by omega, show ¬ k = 9 by omega, if_false]
theorem Qio (N : Nat) (k : Int) (h : (Ji k).2 = true) : (∃ b, Qk N k = some b ∧ b < 0) ∨ (∃ b, Qk N k = some b ∧ ¬ b < 0 ∧ (k = 10 ∨ k = 17)) := by
 by_cases hk : 1 ≤ k ∧ k ≤ 21
 ·rcases kinds hk with rfl | rfl | rfl | rfl | rfl | rfl | rfl | rfl | rfl | rfl | rfl | rfl | rfl | rfl | rfl | rfl | rfl | rfl | rfl | rfl | rfl <;>
   first | (exact absurd h (by decide)) | exact .inl ⟨_, rfl, by decide⟩ | exact .inr ⟨_, rfl, by decide, by decide⟩
 ·exfalso
  unfold Ji at h
  simp only [show ¬ k = 2 by omega, show ¬ k = 3 by omega, show ¬ k = 4 by omega, show ¬ k = 5 by omega, show ¬ k = 11 by omega, show ¬ k = 13 by omega, show ¬ k = 16 by omega, show ¬ k = 6 by omega, show ¬ k = 12 by omega, show ¬ k = 14 by omega, show ¬ k = 17 by omega, show ¬ k = 10 by omega, show ¬ k = 7 by omega, show ¬ k = 8 by omega, show ¬ k = 9 by omega, if_false, or_self] at h
  cases h
theorem Qmf (c : Qf) (n w : Nat) (hw : c.Width = w) (hh : w = 1 ∨ w = 2 ∨ w = 4 ∨ w = 8) (hn : n < 256 ^ w) (hs : (Ji c.Kind).2 = true) :
  (if decide (0 ≤ (IntKind.wrap .u64 (IntKind.wrap .i64 ((IntKind.wrap .i64 (8 * (w : Int))) - 1)))) = true then (if (n : Int) ≥ Gb .u64 1 (IntKind.wrap .u64 (IntKind.wrap .i64 ((IntKind.wrap .i64 (8 * (w : Int))) - 1))) then
   some (IntKind.wrap .u64 ((IntKind.wrap .u64 ((n : Int) - (Gb .u64 1 (IntKind.wrap .u64 (IntKind.wrap .i64 ((IntKind.wrap .i64 (8 * (w : Int))) - 1)))))) - (Gb .u64 1 (IntKind.wrap .u64 (IntKind.wrap .i64 ((IntKind.wrap .i64 (8 * (w : Int))) - 1)))))) else some (n : Int)) else none) = some (Gd c n) := by
 unfold Gd
 simp only [hs, true_and, hw]
 rcases hh with rfl | rfl | rfl | rfl
 ·rw [if_pos (by decide), show Gb .u64 1 (IntKind.wrap .u64 (IntKind.wrap .i64 ((IntKind.wrap .i64 (8 * ((1 : Nat) : Int))) - 1))) = 128 by decide]
  simp only [Q8m]
  simp at hn ⊢
  split <;> simp <;> omega
 ·rw [if_pos (by decide), show Gb .u64 1 (IntKind.wrap .u64 (IntKind.wrap .i64 ((IntKind.wrap .i64 (8 * ((2 : Nat) : Int))) - 1))) = 32768 by decide]
  simp only [Q8m]
  simp at hn ⊢
  split <;> simp <;> omega
 ·rw [if_pos (by decide), show Gb .u64 1 (IntKind.wrap .u64 (IntKind.wrap .i64 ((IntKind.wrap .i64 (8 * ((4 : Nat) : Int))) - 1))) = 2147483648 by decide]
  simp only [Q8m]
  simp at hn ⊢
  split <;> simp <;> omega
 ·rw [if_pos (by decide), show Gb .u64 1 (IntKind.wrap .u64 (IntKind.wrap .i64 ((IntKind.wrap .i64 (8 * ((8 : Nat) : Int))) - 1))) = 9223372036854775808 by decide]
  simp only [Q8m]
  simp at hn ⊢
  intro; omega
theorem Qq8 (N : Nat) (c : Qf) (n w : Nat) (hw : c.Width = w) (hh : w = 1 ∨ w = 2 ∨ w = 4 ∨ w = 8) (hn : n < 256 ^ w) (h17 : c.Kind = 17 → w = 8) : Vn N (n : Int) c.Kind (w : Int) = some (Gd c n) := by
 simp only [Vn, Q6, Xo, Wb, Qay]
 cases hs : (Ji c.Kind).2 with
 | false =>
  obtain ⟨b, hb, hb0, h10⟩ := Qit N c.Kind hs
  rw [hb]
  simp only [Option.bind_some]
  rw [if_neg hb0, if_neg h10]
  unfold Gd
  rw [if_neg (by simp [hs])]
 | true =>
  rcases Qio N c.Kind hs with ⟨b, hb, hb0⟩ | ⟨b, hb, hb0, hk⟩
  ·rw [hb]
   simp only [Option.bind_some]
   rw [if_pos hb0]
   exact Qmf c n w hw hh hn hs
  ·rw [hb]
   simp only [Option.bind_some]
   rw [if_neg hb0]
   rcases hk with hk | hk
   ·rw [if_pos hk]
    exact Qmf c n w hw hh hn hs
   ·rw [if_neg (by omega)]
    have h8 := h17 hk
    subst h8
    unfold Gd
    simp only [hs, true_and, hw]
    simp
theorem Qbg (k : Int) (v : Q0) (n : Int) : (if k = 2 then some ((⟨0, 0, [], []⟩ : Q0), (0 : Int), (5 : Int)) else if k ≠ 0 then some (⟨0, 0, [], []⟩, 0, k) else some (v, n, 0)) = some (if k = 0 then (v, n, 0) else (Q0i, 0, if k = 2 then 5 else k)) := by
 by_cases h2 : k = 2
 ·subst h2; rfl
 ·rw [if_neg h2]
  by_cases h0 : k = 0
  ·rw [if_neg (show ¬ (k ≠ 0) by simp [h0]), if_pos h0]
  ·rw [if_pos (show k ≠ 0 from h0), if_neg h0, if_neg h2]; rfl
theorem Qfl (N : Nat) (code : Int) (s : List UInt8) (hs : s.length < 4611686018427387000) (h : s.length < N) (hN : 50 < N) : Um N code s = some (Qab code s) := by
 have hck : ∀ v : Q0, okU v.N' → v.Text.length ≤ s.length → Qw N v = some (V6 v) := fun v h1 h2 => Q45 N v h1 (by omega) (by omega)
 simp only [Um, Q2y N code hN, Option.bind_some, Q6, Xo, Q37, Wb, Ub, Qab]
 cases hb : ofB code with
 | false => simp only [Bool.not_false, if_true, true_or]; rfl
 | true =>
  have hw := Qbs code hb
  have ht8 := Qwo hb
  have hcd := hw.code
  simp only [Bool.not_true, Bool.false_eq_true, if_false, Bool.true_eq_false, false_or]
  cases hi : (ofS code).Items with
  | true => rfl
  | false =>
   simp only [Bool.false_eq_true, if_false]
   rw [← hcd]
   rw [hcd]
   generalize hc0 : ofS code = c at *
   by_cases hl : (s.length : Int) < c.Width
   ·rw [if_pos hl, if_pos hl]; rfl
   rw [if_neg hl, if_neg hl]
   cases hw.shape hi with
   | sized w hsz hw' h12 hk hc =>
    simp only [hsz, hw', if_true, Int.toNat_natCast]
    have hlw : w ≤ s.length := by omega
    rw [if_pos (by simp), if_pos (by simp [Nat.ble_eq]; omega), List.drop_zero, Qj7 N _ (by rw [List.length_take]; omega) (by omega)]
    simp only [Option.bind_some]
    have hlt := Q2e (s.take w)
    have h4 : 256 ^ (s.take w).length ≤ 256 ^ 4 := Nat.pow_le_pow_right (by omega) (by rw [List.length_take]; omega)
    have h5 : (256 : Nat) ^ 4 = 4294967296 := rfl
    generalize hm : Q1r (s.take w) = m at *
    have e1 : IntKind.u64.wrap (IntKind.i64.wrap ((s.length : Int) - (w : Int))) = ((s.length - w : Nat) : Int) := by
     rw [Qq _ (by omega), show ((s.length : Int) - (w : Int)) = ((s.length - w : Nat) : Int) by omega, Q7c _ (by omega)]
    rw [e1]
    by_cases h6 : s.length - w < m
    ·rw [if_pos (by omega), if_pos h6]; rfl
    ·rw [if_neg (by omega), if_neg h6]
     have e2 : IntKind.i64.wrap ((w : Int) + IntKind.i64.wrap (m : Int)) = ((w + m : Nat) : Int) := by
      rw [Qq (m : Int) (by omega), Qq _ (by omega)]; push_cast; rfl
     rw [e2]
     simp only [Int.toNat_natCast]
     rw [if_pos (by simp; omega), if_pos (by simp [Nat.ble_eq]; omega)]
     rw [show (s.take (w + m)).drop w = (s.drop w).take m by rw [List.drop_take]; congr 1; omega]
     rw [hck _ Qqf (by simp only [List.length_take, List.length_drop]; omega)]
     simp only [Option.bind_some]
     rw [Qbg]
     unfold Qma
     rw [show ((w + m : Nat) : Int) = (w : Int) + (m : Int) by push_cast; rfl]
   | wide hsz hw' hk hc =>
    simp only [hsz, hw', Bool.false_eq_true, if_false, if_true]
    rw [if_pos (by simp [Nat.ble_eq]; omega), List.drop_zero, hck _ Qqf (by simp only [List.length_take]; omega)]
    simp only [Option.bind_some]
    rw [Qbg]
    rfl
   | num w hsz hw' hh ht hc hbb =>
    simp only [hsz, hw', Bool.false_eq_true, if_false, Int.toNat_natCast]
    rw [if_neg (show ¬ ((w : Int) = 16) by omega), if_neg (show ¬ ((w : Int) = 16) by omega)]
    by_cases h65 : code = 65
    ·obtain ⟨rfl, hk2⟩ := hc (by rw [hcd]; exact h65)
     rw [if_pos h65, if_pos (show c.Code = 65 by rw [hcd]; exact h65), hck _ Qw8 (by simp)]
     simp only [Option.bind_some]
     rw [Qbg]
     rfl
    ·rw [if_neg h65, if_neg (show ¬ c.Code = 65 by rw [hcd]; exact h65)]
     have hlw : w ≤ s.length := by omega
     rcases hh with rfl | hh
     ·rw [if_neg (by omega), hck _ Qqf (by simp)]
      simp only [Option.bind_some]
      have e0 : Gd c (Q1r (s.take 0) : Nat) = 0 := by
       unfold Gd
       rw [if_neg (by omega)]; rfl
      rw [Qbg, e0]
      rfl
     ·have hlt := Q2e (s.take w)
      rw [List.length_take, Nat.min_eq_left hlw] at hlt
      rw [if_pos (by omega), if_pos (by simp), if_pos (by simp [Nat.ble_eq]; omega), List.drop_zero, Qj7 N _ (by rw [List.length_take]; omega) (by omega)]
      simp only [Option.bind_some]
      rw [Qq8 N c _ w hw' hh hlt (fun hk => by have := ht8 hk; omega)]
      simp only [Option.bind_some]
      rw [hck _ (Qc7 hw' hh hlt).1 (by simp)]
      simp only [Option.bind_some]
      rw [Qbg]
      rfl
end
end Go.Av
namespace Go.Av
noncomputable section
open Go.Proofs
set_option maxRecDepth 100000
theorem Qrk {P : Q0 → Prop} (h : ∀ v, (∀ x ∈ v.Items, P x) → P v) : ∀ (n : Nat) (v : Q0), v.sz ≤ n → P v
 | 0, v, hn => by have := v.sz_eq; omega
 | n + 1, v, hn => h v (fun x hx => Qrk h n x (by have := v.sz_eq; have := Q0.szs_mem _ x hx; omega))
theorem Q0.ind {P : Q0 → Prop} (h : ∀ v, (∀ x ∈ v.Items, P x) → P v) (v : Q0) : P v := Qrk h v.sz v (Nat.le_refl _)
theorem Qjr {R : Q0 → Q0 → Option Bool} {N : Nat} {a b : Q0} (hlen : a.Items.length = b.Items.length) (hb : a.Items.length < 4611686018427387904)
  (hR : ∀ y ∈ a.Items, ∀ z, R y z = some (decide (y = z))) : ∀ (n i : Nat), i ≤ a.Items.length → a.Items.length - i < n →
  Vy R N a b n (i : Int) = some (decide (a.Items.drop i = b.Items.drop i))
 | 0, i, _, h => by omega
 | n + 1, i, h1, h2 => by
  simp only [Vy, Q6, Xo, Z9]
  by_cases hi : i < a.Items.length
  ·rw [if_pos (by omega), Yb, Yb, List.getElem?_eq_getElem hi, List.getElem?_eq_getElem (show i < b.Items.length by omega)]
   simp only [Option.bind_some, hR _ (List.getElem_mem hi)]
   rw [Qq _ (by omega)]
   have ih := Qjr (N := N) hlen hb hR n (i + 1) (by omega) (by omega)
   rw [List.drop_eq_getElem_cons hi, List.drop_eq_getElem_cons (show i < b.Items.length by omega)]
   by_cases he : a.Items[i] = b.Items[i]
   ·rw [← he]; simp only [decide_true, Bool.not_true, Bool.false_eq_true, if_false, List.cons.injEq, true_and]
    exact_mod_cast ih
   ·have hne : ¬ (a.Items[i] :: List.drop (i + 1) a.Items = b.Items[i] :: List.drop (i + 1) b.Items) := fun e => he (List.cons.inj e).1
    simp only [he, decide_false, Bool.not_false, if_true]
    rw [decide_eq_false hne]
  ·rw [if_neg (by omega), List.drop_of_length_le (by omega), List.drop_of_length_le (by omega)]
   simp
theorem Qnr : ∀ (N : Nat) (a b : Q0), a.sz < N → a.sz < 1000000000 → Ut N a b = some (decide (a = b))
 | 0, a, b, h, _ => by have := a.sz_eq; omega
 | N + 1, a, b, h, h2 => by
  have hs := a.sz_eq
  have hl := Q0.szs_len a.Items
  simp only [Ut, Q0o, Q6, Ub, Gg, Z9]
  by_cases e1 : a.Kind = b.Kind
  ·by_cases e2 : a.N' = b.N'
   ·by_cases e3 : a.Text = b.Text
    ·by_cases e4 : a.Items.length = b.Items.length
     ·rw [if_neg (by simp [e1]), if_neg (by simp [e2]), if_neg (by simp [e3]), if_neg (by simp [e4])]
      have := Qjr (N := N) (R := Ut N) e4 (by omega) (fun y hy z => Qnr N y z (by have := Q0.szs_mem _ y hy; omega) (by have := Q0.szs_mem _ y hy; omega)) N 0 (by omega) (by omega)
      rw [show (0 : Int) = ((0 : Nat) : Int) from rfl, this]
      cases a; cases b; simp_all
     ·rw [if_neg (by simp [e1]), if_neg (by simp [e2]), if_neg (by simp [e3]), if_pos (by omega)]
      have : a ≠ b := fun e => e4 (by rw [e])
      simp [this]
    ·rw [if_neg (by simp [e1]), if_neg (by simp [e2]), if_pos (by simpa using e3)]
     have : a ≠ b := fun e => e3 (by rw [e])
     simp [this]
   ·rw [if_neg (by simp [e1]), if_pos (by simpa using e2)]
    have : a ≠ b := fun e => e2 (by rw [e])
    simp [this]
  ·rw [if_pos (by simpa using e1)]
   have : a ≠ b := fun e => e1 (by rw [e])
   simp [this]
end
end Go.Av
namespace Go.Av
noncomputable section
open Go.Proofs
set_option maxRecDepth 100000
def nnS (v : Q0) : Bool := (Zj 0 v).getD false
theorem Qsz (N : Nat) (v : Q0) : Zj N v = some (nnS v) := by
 have h : Zj N v = Zj 0 v := rfl
 rw [h]
 unfold nnS Zj
 simp only [Q6]
 repeat' split
 all_goals rfl
mutual
def Q2t : Q0 → Q0 → Bool
 | .mk k n t is, b => decide (k = b.Kind) && (decide (t = b.Text) && (decide (is.length = b.Items.length) && ((decide (n = b.N') || (nnS ⟨k, n, t, is⟩ && nnS b)) && Q2i is b.Items)))
def Q2i : List Q0 → List Q0 → Bool
 | [], _ => true
 | x :: l, y :: m => Q2t x y && Q2i l m
 | _ :: _, [] => false
end
theorem Qbd (a b : Q0) : Q2t a b = (decide (a.Kind = b.Kind) && (decide (a.Text = b.Text) && (decide (a.Items.length = b.Items.length) && ((decide (a.N' = b.N') || (nnS a && nnS b)) && Q2i a.Items b.Items)))) := by
 cases a; simp only [Q2t]
theorem Qjw {R : Q0 → Q0 → Option Bool} {N : Nat} {a b : Q0} (hlen : a.Items.length = b.Items.length) (hb : a.Items.length < 4611686018427387904)
  (hR : ∀ y ∈ a.Items, ∀ z, R y z = some (Q2t y z)) : ∀ (n i : Nat), i ≤ a.Items.length → a.Items.length - i < n →
  Vf R N a b n (i : Int) = some (Q2i (a.Items.drop i) (b.Items.drop i)) ∧ Vc R N a b n (i : Int) = some (Q2i (a.Items.drop i) (b.Items.drop i))
 | 0, i, _, h => by omega
 | n + 1, i, h1, h2 => by
  simp only [Vf, Vc, Q6, Xo, Z9]
  by_cases hi : i < a.Items.length
  ·rw [if_pos (by omega), if_pos (by omega), Yb, Yb, List.getElem?_eq_getElem hi, List.getElem?_eq_getElem (show i < b.Items.length by omega)]
   simp only [Option.bind_some, hR _ (List.getElem_mem hi)]
   rw [Qq _ (by omega)]
   obtain ⟨ih1, ih2⟩ := Qjw (N := N) hlen hb hR n (i + 1) (by omega) (by omega)
   rw [List.drop_eq_getElem_cons hi, List.drop_eq_getElem_cons (show i < b.Items.length by omega), Q2i]
   cases Q2t a.Items[i] b.Items[i] with
   | true =>
    simp only [Bool.not_true, Bool.false_eq_true, if_false, Bool.true_and]
    exact ⟨by exact_mod_cast ih1, by exact_mod_cast ih2⟩
   | false => simp
  ·rw [if_neg (by omega), if_neg (by omega), List.drop_of_length_le (by omega)]
   simp [Q2i]
theorem Qjg : ∀ (N : Nat) (a b : Q0), a.sz < N → a.sz < 1000000000 → U3 N a b = some (Q2t a b)
 | 0, a, b, h, _ => by have := a.sz_eq; omega
 | N + 1, a, b, h, h2 => by
  have hs := a.sz_eq
  have hl := Q0.szs_len a.Items
  rw [Qbd]
  simp only [U3, Gw, Q6, Ub, Gg, Z9, Qsz, Option.bind_some]
  by_cases e1 : a.Kind = b.Kind
  ·by_cases e3 : a.Text = b.Text
   ·by_cases e4 : a.Items.length = b.Items.length
    ·rw [if_neg (by simp [e1]), if_neg (by simp [e3]), if_neg (by simp [e4])]
     obtain ⟨i1, i2⟩ := Qjw (N := N) (R := U3 N) e4 (by omega) (fun y hy z => Qjg N y z (by have := Q0.szs_mem _ y hy; omega) (by have := Q0.szs_mem _ y hy; omega)) N 0 (by omega) (by omega)
     rw [show ((0 : Nat) : Int) = 0 from rfl] at i1 i2
     rw [i1, i2, List.drop_zero, List.drop_zero]
     simp only [e1, e3, e4, decide_true, Bool.true_and]
     by_cases e2 : a.N' = b.N'
     ·simp [e2]
     ·simp only [e2, ne_eq, not_false_eq_true, if_true, decide_false, Bool.false_or]
      cases nnS a <;> cases nnS b <;> simp
    ·rw [if_neg (by simp [e1]), if_neg (by simp [e3]), if_pos (by omega)]
     simp [e4]
   ·rw [if_neg (by simp [e1]), if_pos (by simpa using e3)]
    simp [e3]
  ·rw [if_pos (by simpa using e1)]
   simp [e1]
def AL (v : Q0) (i j : Nat) : Prop := ∃ x y, v.Items[i]? = some x ∧ v.Items[j]? = some y ∧ Q2t x y = true
open Classical in
noncomputable def Q2j (v : Q0) : Int := if v.Kind ≠ 23 then 0 else if ∃ i j, 2 ≤ i ∧ i % 2 = 0 ∧ i < v.Items.length ∧ j < i ∧ j % 2 = 0 ∧ AL v i j then 16 else 0
open Classical in
theorem Qmj {N : Nat} {v : Q0} (hb : v.sz < 1000000000) (hN : v.sz < N) {k0 : Int → Option Int} {i : Nat} (hi : i < v.Items.length) (i2 : i % 2 = 0) : ∀ (n k : Nat), i - k < n → k % 2 = 0 → k ≤ i →
  U0 N k0 v (i : Int) n (k : Int) = if ∃ j, k ≤ j ∧ j < i ∧ j % 2 = 0 ∧ AL v i j then some 16 else k0 ((i + 2 : Nat) : Int)
 | 0, k, h, _, _ => by omega
 | n + 1, k, h, hk, hki => by
  have hs := v.sz_eq
  have hl := Q0.szs_len v.Items
  simp only [U0, Q6, Xo, Yb]
  by_cases hlt : k < i
  ·rw [if_pos (by omega), List.getElem?_eq_getElem hi, List.getElem?_eq_getElem (show k < v.Items.length by omega)]
   simp only [Option.bind_some]
   have hsz := Q0.szs_mem _ _ (List.getElem_mem hi)
   rw [Qjg N _ _ (by omega) (by omega)]
   simp only [Option.bind_some]
   cases hal : Q2t v.Items[i] v.Items[k] with
   | true =>
    rw [if_pos rfl, if_pos ⟨k, Nat.le_refl _, hlt, hk, _, _, List.getElem?_eq_getElem hi, List.getElem?_eq_getElem (by omega), hal⟩]
   | false =>
    rw [if_neg (by simp), Qq _ (by omega)]
    have := Qmj (k0 := k0) hb hN hi i2 n (k + 2) (by omega) (by omega) (by omega)
    rw [show ((k : Int) + 2) = ((k + 2 : Nat) : Int) by push_cast; rfl, this]
    by_cases hx : ∃ j, k + 2 ≤ j ∧ j < i ∧ j % 2 = 0 ∧ AL v i j
    ·rw [if_pos hx]
     obtain ⟨j, j1, j2, j3, j4⟩ := hx
     rw [if_pos ⟨j, by omega, j2, j3, j4⟩]
    ·rw [if_neg hx, if_neg]
     rintro ⟨j, j1, j2, j3, j4⟩
     by_cases hjk : j = k
     ·subst hjk
      obtain ⟨x, y, x1, y1, z1⟩ := j4
      rw [List.getElem?_eq_getElem hi] at x1
      rw [List.getElem?_eq_getElem (by omega)] at y1
      cases x1; cases y1
      rw [hal] at z1; cases z1
     ·exact hx ⟨j, by omega, j2, j3, j4⟩
  ·rw [if_neg (by omega), Qq _ (by omega), if_neg (by rintro ⟨j, j1, j2, _⟩; omega)]
   push_cast; rfl
open Classical in
theorem Qof {N : Nat} {v : Q0} (hb : v.sz < 1000000000) (hN : v.sz < N) : ∀ (n i : Nat), v.Items.length - i < n → i % 2 = 0 → i ≤ v.Items.length + 2 →
  W0 N v n (i : Int) = some (if ∃ i' j, i ≤ i' ∧ i' % 2 = 0 ∧ i' < v.Items.length ∧ j < i' ∧ j % 2 = 0 ∧ AL v i' j then 16 else 0)
 | 0, i, h, _, _ => by omega
 | n + 1, i, h, hi, hle => by
  have hs := v.sz_eq
  have hl := Q0.szs_len v.Items
  simp only [W0, Q6, Xo, Z9]
  by_cases hlt : i < v.Items.length
  ·rw [if_pos (by omega)]
   have h1 := Qmj (N := N) (k0 := W0 N v n) hb hN hlt hi N 0 (by omega) (by omega) (by omega)
   rw [show ((0 : Nat) : Int) = 0 from rfl] at h1
   rw [h1]
   by_cases hx : ∃ j, 0 ≤ j ∧ j < i ∧ j % 2 = 0 ∧ AL v i j
   ·rw [if_pos hx]
    obtain ⟨j, _, j2, j3, j4⟩ := hx
    rw [if_pos ⟨i, j, Nat.le_refl _, hi, hlt, j2, j3, j4⟩]
   ·rw [if_neg hx, Qof hb hN n (i + 2) (by omega) (by omega) (by omega)]
    by_cases hy : ∃ i' j, i + 2 ≤ i' ∧ i' % 2 = 0 ∧ i' < v.Items.length ∧ j < i' ∧ j % 2 = 0 ∧ AL v i' j
    ·rw [if_pos hy]
     obtain ⟨i', j, a1, a2, a3⟩ := hy
     rw [if_pos ⟨i', j, by omega, a2, a3⟩]
    ·rw [if_neg hy, if_neg]
     rintro ⟨i', j, a1, a2, a3, a4, a5, a6⟩
     by_cases he : i' = i
     ·subst he; exact hx ⟨j, by omega, a4, a5, a6⟩
     ·exact hy ⟨i', j, by omega, a2, a3, a4, a5, a6⟩
  ·rw [if_neg (by omega), if_neg]
   rintro ⟨i', j, a1, a2, a3, _⟩; omega
theorem Qek (N : Nat) (v : Q0) (hb : v.sz < 1000000000) (hN : v.sz + 5 < N) : Wy N v = some (Q2j v) := by
 have hs := v.sz_eq
 have hl := Q0.szs_len v.Items
 simp only [Wy, Q6, Ub, Q2j]
 by_cases h : v.Kind ≠ 23
 ·rw [if_pos h, if_pos h]
 ·rw [if_neg h, if_neg h]
  exact Qof hb (by omega) N 2 (by omega) (by omega) (by omega)
def Q71 (v : Q0) : Option Bool :=
 cond (Q36 .neq v.Text [])
 (some false)
 (cond (Q5 .eql v.Kind 24)
 (cond (Q5 .geq v.N' 1)
 (some (Q5 .leq v.N' 24))
 (some false))
 (cond (Q5 .neq v.N' 0)
 (some false)
 (cond (Q5 .eql v.Kind 25)
 (some (Q5 .eql ((Q0.rows v.Items).length : Int) 2))
 (cond (Q5 .eql v.Kind 23)
 (some (Q5 .eql ((((Q0.rows v.Items).length : Int) : Int).tmod 2) 0))
 (some true)))))
def Gy (v : Q0) : Bool := (Q71 v).getD false
theorem Qdn (v : Q0) : Q71 v = some (Gy v) := by
 unfold Gy Q71
 simp only [Q6]
 repeat' split
 all_goals rfl
theorem Qou (N : Nat) (v : Q0) : Je N v = some (Gy v) := by
 rw [← Qdn v]
 unfold Q71 Je
 simp only [Q6]
 repeat' split
 all_goals rfl
mutual
noncomputable def Xa : Q0 → Int → Int
 | .mk k n t is, m => if k < 1 then 8 else if 25 < k then 8 else if k ≤ 21 then V6 ⟨k, n, t, is⟩ else if m = 0 then 14 else if Gy ⟨k, n, t, is⟩ = false then 2 else if 1000 < is.length then 4 else Gx is k n (m - 1) (Q2j ⟨k, n, t, is⟩)
noncomputable def Gx : List Q0 → Int → Int → Int → Int → Int
 | [], _, _, _, e => e
 | x :: l, k, n, m, e => if k = 24 ∧ IntKind.u64.wrap x.Kind ≠ n then 8 else if Xa x m ≠ 0 then Xa x m else Gx l k n m e
end
theorem Q28 (v : Q0) (m : Int) : Xa v m = if v.Kind < 1 then 8 else if 25 < v.Kind then 8 else if v.Kind ≤ 21 then V6 v else if m = 0 then 14 else if Gy v = false then 2 else if 1000 < v.Items.length then 4 else Gx v.Items v.Kind v.N' (m - 1) (Q2j v) := by
 cases v; simp only [Xa]
inductive Fine : Q0 → Prop
 | mk (v : Q0) (hn : okU v.N') (ht : v.Text.length ≤ 300000) (hi : ∀ x ∈ v.Items, Fine x) : Fine v
theorem Fine.num {v : Q0} (h : Fine v) : okU v.N' := by cases h; assumption
theorem Fine.text {v : Q0} (h : Fine v) : v.Text.length ≤ 300000 := by cases h; assumption
theorem Fine.items {v : Q0} (h : Fine v) : ∀ x ∈ v.Items, Fine x := by cases h; assumption
theorem Qf3 : ∀ (l : List Q0), Q0.txts l → ∀ x ∈ l, x.txt
 | v :: l, h, x, hx => by
  simp only [Q0.txts] at h
  rcases List.mem_cons.1 hx with rfl | hx
  ·exact h.1
  ·exact Qf3 l h.2 x hx
theorem Qtl (v : Q0) (hv : OkV v) (ht : v.txt) : Fine v := by
 induction v using Q0.ind with
 | h v ih =>
  rw [Q0.txt_eq] at ht
  exact .mk v hv.num (by omega) (fun x hx => ih x hx (hv.items x hx) (Qf3 _ ht.2 x hx))
theorem Qfz {R : Q0 → Int → Option Int} {N : Nat} {v : Q0} {m : Int} (hb : v.sz < 1000000000) (hN : v.sz + 5 < N) (hm : 1 ≤ m ∧ m ≤ 32) (hR : ∀ y ∈ v.Items, R y (m - 1) = some (Xa y (m - 1))) : ∀ (n i : Nat), i ≤ v.Items.length → v.Items.length - i < n →
  X7 R N v m n (i : Int) = some (Gx (v.Items.drop i) v.Kind v.N' (m - 1) (Q2j v))
 | 0, i, _, h => by omega
 | n + 1, i, hi, hn => by
  have hs := v.sz_eq
  have hl := Q0.szs_len v.Items
  simp only [X7, Q6, Xo, Wb, Ub, Z9, Yb, Qq (m - 1) (show _ by omega), Qek N v hb hN, Option.bind_some]
  by_cases h : i < v.Items.length
  ·rw [if_pos (by omega), List.getElem?_eq_getElem h, List.drop_eq_getElem_cons h, Gx]
   simp only [Option.bind_some, hR _ (List.getElem_mem h)]
   rw [Qq _ (by omega)]
   have ih := Qfz (N := N) hb hN hm hR n (i + 1) (by omega) (by omega)
   rw [show ((i : Int) + 1) = ((i + 1 : Nat) : Int) by push_cast; rfl, ih]
   by_cases h24 : v.Kind = 24
   ·rw [if_pos h24]
    by_cases hw : IntKind.u64.wrap v.Items[i].Kind ≠ v.N'
    ·rw [if_pos hw, if_pos ⟨h24, hw⟩]
    ·rw [if_neg hw, if_neg (show ¬ (v.Kind = 24 ∧ IntKind.u64.wrap v.Items[i].Kind ≠ v.N') from fun hh => hw hh.2)]
     by_cases hc : Xa v.Items[i] (m - 1) ≠ 0
     ·rw [if_pos hc, if_pos hc]
     ·rw [if_neg hc, if_neg hc]
   ·rw [if_neg h24, if_neg (show ¬ (v.Kind = 24 ∧ IntKind.u64.wrap v.Items[i].Kind ≠ v.N') from fun hh => h24 hh.1)]
    by_cases hc : Xa v.Items[i] (m - 1) ≠ 0
    ·rw [if_pos hc, if_pos hc]
    ·rw [if_neg hc, if_neg hc]
  ·rw [if_neg (by omega), List.drop_of_length_le (by omega), Gx]
theorem Qfm : ∀ (N : Nat) (v : Q0) (m : Int), Fine v → v.sz + 300050 < N → v.sz < 1000000000 → 0 ≤ m → m ≤ 32 → V0 N v m = some (Xa v m)
 | 0, v, m, _, h, _, _, _ => by omega
 | N + 1, v, m, hv, h, h2, m0, m1 => by
  have hs := v.sz_eq
  have hl := Q0.szs_len v.Items
  rw [Q28]
  have ht := hv.text
  simp only [V0, G2, Q6, Xo, Q37, Q74, Wb, Z9, Q4n N v hv.num (show v.Text.length < N by omega) (by omega), Qou, Option.bind_some]
  split
  ·rfl
  rename_i h1
  by_cases h25 : v.Kind > 25
  ·rw [if_pos h25, if_pos (show 25 < v.Kind from h25)]
  rw [if_neg h25, if_neg (show ¬ 25 < v.Kind from h25)]
  split
  ·rfl
  by_cases hm0 : m = 0
  ·rw [if_pos hm0, if_pos hm0]
  rw [if_neg hm0, if_neg hm0]
  cases Gy v with
  | false => rfl
  | true =>
   simp only [Bool.not_true, Bool.false_eq_true, if_false, Bool.true_eq_false]
   by_cases hlen : 1000 < v.Items.length
   ·rw [if_pos (by omega), if_pos hlen]
   rw [if_neg (by omega), if_neg hlen]
   have := Qfz (R := V0 N) (N := N) (v := v) (m := m) h2 (by omega) ⟨by omega, m1⟩ (fun y hy => Qfm N y (m - 1) (hv.items y hy) (by have := Q0.szs_mem _ y hy; omega) (by have := Q0.szs_mem _ y hy; omega) (by omega) (by omega)) N 0 (by omega) (by omega)
   exact this
def Q3w (m : Int) : Bool := decide (0 ≤ m ∧ m ≤ 32)
theorem Q6g (N : Nat) (m : Int) : Xz N m = some (Q3w m) := by
 unfold Xz Q3w
 simp only [Q6, Qay]
 by_cases h : 0 ≤ m
 ·rw [if_pos h]
  show some (decide (m ≤ 32)) = _
  rw [Option.some.injEq, decide_eq_decide]; omega
 ·rw [if_neg h, decide_eq_false (by omega)]
noncomputable def G0 (v : Q0) (m : Int) : Int := if Q3w m = false then 2 else Xa v m
theorem Qh0 (N : Nat) (v : Q0) (m : Int) (hv : Fine v) (h : v.sz + 300050 < N) (h2 : v.sz < 1000000000) : Uy N v m = some (G0 v m) := by
 simp only [Uy, Q6g, Option.bind_some, Q6, G0]
 cases hr : Q3w m with
 | false => rfl
 | true =>
  have : 0 ≤ m ∧ m ≤ 32 := by simpa [Q3w] using hr
  simp only [Bool.not_true, Bool.false_eq_true, if_false, Bool.true_eq_false]
  rw [Qfm N v m hv h h2 this.1 this.2]; rfl
end
end Go.Av
namespace Go.Av
noncomputable section
open Go.Proofs
set_option maxRecDepth 100000
end
end Go.Av
namespace Go.Av
noncomputable section
open Go.Proofs
set_option maxRecDepth 100000
abbrev Rd := Q0 × Int × Int
def Ui (rd : List UInt8 → Rd) : Nat → List UInt8 → List Q0 → (List Q0 × List UInt8) × Int
 | 0, s, acc => ((acc, s), 0)
 | c + 1, s, acc => if (rd s).2.2 ≠ 0 then (([], []), (rd s).2.2) else Ui rd c (s.drop (rd s).2.1.toNat) (acc ++ [(rd s).1])
def Ya (data : Int → List UInt8 → Rd) : List UInt8 → Rd
 | [] => (Q0i, 0, 3)
 | b :: t => if (data (b.toNat : Int) t).2.2 ≠ 0 then (Q0i, 0, (data (b.toNat : Int) t).2.2) else ((data (b.toNat : Int) t).1, (data (b.toNat : Int) t).2.1 + 1, 0)
def Qln (rd : List UInt8 → Rd) (s : List UInt8) : Rd := if (Ui rd 2 s []).2 ≠ 0 then (Q0i, 0, (Ui rd 2 s []).2) else (⟨25, 0, [], (Ui rd 2 s []).1.1⟩, ((s.length - (Ui rd 2 s []).1.2.length : Nat) : Int), 0)
noncomputable def Qcl (k num : Int) (q : (List Q0 × List UInt8) × Int) (tot : Nat) : Rd := if q.2 ≠ 0 then (Q0i, 0, if q.2 = 3 then 5 else q.2) else if q.1.2 ≠ [] then (Q0i, 0, 5)
 else if Q2j ⟨k, num, [], q.1.1⟩ ≠ 0 then (Q0i, 0, Q2j ⟨k, num, [], q.1.1⟩) else (⟨k, num, [], q.1.1⟩, (tot : Int), 0)
theorem Qad {k num e : Int} {tot : Nat} {x : List Q0 × List UInt8} (he : e ≠ 0) : Qcl k num (x, e) tot = (Q0i, 0, if e = 3 then 5 else e) := by
 unfold Qcl
 rw [if_pos (show (x, e).2 ≠ 0 from he)]
noncomputable def Qvk (data : Int → List UInt8 → Rd) (cnt tot : Nat) (k : Int) : List UInt8 → Rd
 | [] => (Q0i, 0, 5)
 | b :: t => if ofB (b.toNat : Int) = false ∨ b.toNat = 0 then (Q0i, 0, 8) else Qcl k (ofS (b.toNat : Int)).Kind (Ui (data (b.toNat : Int)) cnt t []) tot
noncomputable def Qpt (data : Int → List UInt8 → Rd) (c : Qf) (w : Nat) (body : List UInt8) (tot : Nat) : Rd :=
 if body.length < w then (Q0i, 0, 5)
 else if 1000 < Q1r (body.take w) then (Q0i, 0, 4)
 else if c.Kind = 23 ∧ Q1r (body.take w) % 2 ≠ 0 then (Q0i, 0, 5)
 else if c.Kind = 24 then Qvk data (Q1r (body.take w)) tot c.Kind (body.drop w)
 else Qcl c.Kind 0 (Ui (Ya data) (Q1r (body.take w)) (body.drop w) []) tot
noncomputable def Q8e (data : Int → List UInt8 → Rd) (c : Qf) (s : List UInt8) : Rd :=
 if s.length < c.Width.toNat then (Q0i, 0, 3)
 else if s.length - c.Width.toNat < Q1r (s.take c.Width.toNat) then (Q0i, 0, 3)
 else Qpt data c c.Width.toNat ((s.drop c.Width.toNat).take (Q1r (s.take c.Width.toNat))) (c.Width.toNat + Q1r (s.take c.Width.toNat))
noncomputable def Va : Nat → Int → List UInt8 → Rd
 | 0, code, s => if ofB code = false then (Q0i, 0, 8) else if (ofS code).Items = false then Qab code s else (Q0i, 0, 14)
 | m + 1, code, s => if ofB code = false then (Q0i, 0, 8) else if (ofS code).Items = false then Qab code s
  else if (ofS code).Kind = 25 then Qln (Ya (Va m)) s else if (ofS code).Sized = false then (⟨(ofS code).Kind, 0, [], []⟩, 0, 0) else Q8e (Va m) (ofS code) s
def Qpl (rd : List UInt8 → Rd) : Prop := ∀ s, s.length ≤ 600000 → (rd s).2.2 = 0 → 0 ≤ (rd s).2.1 ∧ (rd s).2.1 ≤ s.length ∧ (rd s).1.sz ≤ 1 + 1000 * (rd s).2.1.toNat
theorem Qm5 (b : UInt8) : IntKind.i64.wrap ((b.toNat : Nat) : Int) = ((b.toNat : Nat) : Int) := by
 have h : b.toNat < 256 := b.toNat_lt
 exact Qq _ (by omega)
theorem Q7k {text : List UInt8} {at' : Nat} (_h : at' ≤ text.length) (k : Nat) : (text.drop at').drop k = text.drop (at' + k) := by rw [List.drop_drop]
theorem Qev (N : Nat) (s : List UInt8) (i : Nat) (e : Int) (hi : i ≤ s.length) : Z2 N ⟨s, i, e⟩ = some (s.drop i, ⟨s, i, e⟩) := by
 simp only [Z2, Q6]
 rw [if_pos (by simp), if_pos (by simp [Nat.ble_eq]; exact hi)]
 simp
theorem Qvr (i : Nat) (h : i < 1000000000) : IntKind.u64.wrap ((i : Int) + 1) = ((i + 1 : Nat) : Int) := by
 rw [show ((i : Int) + 1) = ((i + 1 : Nat) : Int) by push_cast; rfl]; exact Q13 _ (by omega)
theorem Qby {R : List UInt8 → Int → Option Rd} {N : Nat} {c : Qf} {most : Int} {v9 : (List UInt8) × Q3} {v11 : Int × Q3} {rd : List UInt8 → Rd} {text : List UInt8} {cnt tot : Nat}
  (hm : 1 ≤ most ∧ most ≤ 32) (ht : text.length ≤ 600000) (hc : cnt ≤ 1000) (h11 : v11.1 = (cnt : Int)) (h9 : v9.2.at' = (tot : Int)) (hN : 700000000 < N) (hR : ∀ s, s.length ≤ text.length → R s (most - 1) = some (rd s)) (hg : Qpl rd) :
  ∀ (n i at' : Nat) (l : List Q0), i ≤ cnt → cnt - i < n → at' ≤ text.length → l.length = i → Q0.szs l ≤ i + 1000 * at' →
  Wf R N c most v9 v11 n (i : Int) text (at' : Int) 0 l = some (Qcl c.Kind 0 (Ui rd (cnt - i) (text.drop at') l) tot)
 | 0, i, at', l, _, h, _, _, _ => by omega
 | n + 1, i, at', l, hi, hn, ha, hl, hz => by
  simp only [Wf, Q6, Xo, Wb, Ub, h11, Qev N text at' 0 ha, Option.bind_some, Qq (most - 1) (show _ by omega), hR (text.drop at') (by rw [List.length_drop]; omega)]
  by_cases hic : i < cnt
  ·rw [if_pos (by omega)]
   obtain ⟨k, hk⟩ : ∃ k, cnt - i = k + 1 := ⟨cnt - i - 1, by omega⟩
   rw [hk, Ui]
   have hgd := hg (text.drop at') (by rw [List.length_drop]; omega)
   generalize hr : rd (text.drop at') = r at hgd ⊢
   obtain ⟨x, m, e⟩ := r
   simp only [] at hgd ⊢
   by_cases he : e = 0
   ·subst he
    obtain ⟨g1, g2, g3⟩ := hgd rfl
    rw [List.length_drop] at g2
    obtain ⟨mm, rfl⟩ := Int.eq_ofNat_of_zero_le g1
    rw [if_pos rfl, Q4w N text at' mm (by unfold Qaz; omega) ha (by omega), if_pos (by omega)]
    simp only [Option.bind_some]
    rw [if_neg (by decide), if_neg (by simp), if_pos (by simp [Nat.ble_eq]; omega), Qvr i (by omega), if_neg (by simp)]
    have ih := Qby (c := c) (v9 := v9) (tot := tot) hm ht hc h11 h9 hN hR hg n (i + 1) (at' + mm) (l ++ [x]) (by omega) (by omega) (by omega) (by simp [hl]) (by
     rw [Q0.szs_app]
     simp only [Q0.szs, Int.toNat_natCast] at g3 ⊢
     omega)
    rw [ih, show cnt - (i + 1) = k by omega, Q7k ha]
    simp only [Int.toNat_natCast]
   ·rw [if_neg he]
    rw [if_pos (show e ≠ 0 from he), if_pos (show e ≠ 0 from he), Qad he]
    by_cases h3 : e = 3
    ·rw [if_pos h3, if_pos h3]; rfl
    ·rw [if_neg h3, if_neg h3]; rfl
  ·rw [if_neg (by omega), show cnt - i = 0 by omega, Ui, Q70 N text at' 0 ha]
   simp only [Option.bind_some]
   unfold Qcl
   simp only []
   rw [if_neg (show ¬ ((0 : Int) ≠ 0) by simp)]
   by_cases hrest : text.drop at' = []
   ·have : text.length - at' = 0 := by
     have := congrArg List.length hrest
     rw [List.length_drop] at this; simpa using this
    rw [if_neg (by omega), if_neg (by simp [hrest])]
    have hsz : Q0.sz ⟨c.Kind, 0, [], l⟩ = 1 + Q0.szs l := by rw [Q0.sz_eq]
    rw [Qek N ⟨c.Kind, 0, [], l⟩ (by omega) (by omega)]
    simp only [Option.bind_some]
    split
    ·rfl
    ·simp only [Qr, Option.bind_some, h9]
   ·have : text.length - at' ≠ 0 := by
     intro h0
     exact hrest (List.drop_of_length_le (by omega))
    rw [if_pos (by omega), if_pos hrest]; rfl
theorem Qb4 {R : List UInt8 → Int → Option Rd} {N : Nat} {c : Qf} {most : Int} {v9 : (List UInt8) × Q3} {v11 : Int × Q3} {rd : List UInt8 → Rd} {text : List UInt8} {cnt tot : Nat}
  (hm : 1 ≤ most ∧ most ≤ 32) (ht : text.length ≤ 600000) (hc : cnt ≤ 1000) (h11 : v11.1 = (cnt : Int)) (h9 : v9.2.at' = (tot : Int)) (hN : 700000000 < N) (hR : ∀ s, s.length ≤ text.length → R s (most - 1) = some (rd s)) (hg : Qpl rd) :
  ∀ (n i at' : Nat) (l : List Q0), i ≤ cnt → cnt - i < n → at' ≤ text.length → l.length = i → Q0.szs l ≤ i + 1000 * at' →
  Wg R N c most v9 v11 n (i : Int) text (at' : Int) 0 l = some (Qcl c.Kind 0 (Ui rd (cnt - i) (text.drop at') l) tot)
 | 0, i, at', l, _, h, _, _, _ => by omega
 | n + 1, i, at', l, hi, hn, ha, hl, hz => by
  simp only [Wg, Q6, Xo, Wb, Ub, h11, Qev N text at' 0 ha, Option.bind_some, Qq (most - 1) (show _ by omega), hR (text.drop at') (by rw [List.length_drop]; omega)]
  by_cases hic : i < cnt
  ·rw [if_pos (by omega)]
   obtain ⟨k, hk⟩ : ∃ k, cnt - i = k + 1 := ⟨cnt - i - 1, by omega⟩
   rw [hk, Ui]
   have hgd := hg (text.drop at') (by rw [List.length_drop]; omega)
   generalize hr : rd (text.drop at') = r at hgd ⊢
   obtain ⟨x, m, e⟩ := r
   simp only [] at hgd ⊢
   by_cases he : e = 0
   ·subst he
    obtain ⟨g1, g2, g3⟩ := hgd rfl
    rw [List.length_drop] at g2
    obtain ⟨mm, rfl⟩ := Int.eq_ofNat_of_zero_le g1
    rw [if_pos rfl, Q4w N text at' mm (by unfold Qaz; omega) ha (by omega), if_pos (by omega)]
    simp only [Option.bind_some]
    rw [if_neg (by decide), if_neg (by simp), if_pos (by simp [Nat.ble_eq]; omega), Qvr i (by omega), if_neg (by simp)]
    have ih := Qb4 (c := c) (v9 := v9) (tot := tot) hm ht hc h11 h9 hN hR hg n (i + 1) (at' + mm) (l ++ [x]) (by omega) (by omega) (by omega) (by simp [hl]) (by
     rw [Q0.szs_app]
     simp only [Q0.szs, Int.toNat_natCast] at g3 ⊢
     omega)
    rw [ih, show cnt - (i + 1) = k by omega, Q7k ha]
    simp only [Int.toNat_natCast]
   ·rw [if_neg he]
    rw [if_pos (show e ≠ 0 from he), if_pos (show e ≠ 0 from he), Qad he]
    by_cases h3 : e = 3
    ·rw [if_pos h3, if_pos h3]; rfl
    ·rw [if_neg h3, if_neg h3]; rfl
  ·rw [if_neg (by omega), show cnt - i = 0 by omega, Ui, Q70 N text at' 0 ha]
   simp only [Option.bind_some]
   unfold Qcl
   simp only []
   rw [if_neg (show ¬ ((0 : Int) ≠ 0) by simp)]
   by_cases hrest : text.drop at' = []
   ·have : text.length - at' = 0 := by
     have := congrArg List.length hrest
     rw [List.length_drop] at this; simpa using this
    rw [if_neg (by omega), if_neg (by simp [hrest])]
    have hsz : Q0.sz ⟨c.Kind, 0, [], l⟩ = 1 + Q0.szs l := by rw [Q0.sz_eq]
    rw [Qek N ⟨c.Kind, 0, [], l⟩ (by omega) (by omega)]
    simp only [Option.bind_some]
    split
    ·rfl
    ·simp only [Qr, Option.bind_some, h9]
   ·have : text.length - at' ≠ 0 := by
     intro h0
     exact hrest (List.drop_of_length_le (by omega))
    rw [if_pos (by omega), if_pos hrest]; rfl
theorem Qbk {R : List UInt8 → Int → Option Rd} {R2 : Int → List UInt8 → Int → Option Rd} {N : Nat} {c : Qf} {most : Int} {v9 : (List UInt8) × Q3} {v11 : Int × Q3} {v23 : Int × Q3} {v25 : Qf × Bool} {rd : List UInt8 → Rd} {text : List UInt8} {cnt tot : Nat} {b : UInt8}
  (hm : 1 ≤ most ∧ most ≤ 32) (ht : text.length ≤ 600000) (hc : cnt ≤ 1000) (h11 : v11.1 = (cnt : Int)) (h9 : v9.2.at' = (tot : Int)) (h23 : v23.1 = (b.toNat : Int)) (h25 : 0 ≤ v25.1.Kind ∧ v25.1.Kind ≤ 25) (hN : 700000000 < N) (hR : ∀ s, s.length ≤ text.length → R2 (b.toNat : Int) s (most - 1) = some (rd s)) (hg : Qpl rd) :
  ∀ (n i at' : Nat) (l : List Q0), i ≤ cnt → cnt - i < n → at' ≤ text.length → l.length = i → Q0.szs l ≤ i + 1000 * at' →
  Zy R R2 N c most v9 v11 v23 v25 n (i : Int) text (at' : Int) 0 l = some (Qcl c.Kind v25.1.Kind (Ui rd (cnt - i) (text.drop at') l) tot)
 | 0, i, at', l, _, h, _, _, _ => by omega
 | n + 1, i, at', l, hi, hn, ha, hl, hz => by
  have hb : b.toNat < 256 := b.toNat_lt
  have hkw : IntKind.u64.wrap v25.1.Kind = v25.1.Kind := by rw [Q8m]; omega
  simp only [Zy, Q6, Xo, Wb, Ub, h11, h23, Qm5, hkw, Qev N text at' 0 ha, Option.bind_some, Qq (most - 1) (show _ by omega), hR (text.drop at') (by rw [List.length_drop]; omega)]
  by_cases hic : i < cnt
  ·rw [if_pos (by omega), if_neg (by omega)]
   obtain ⟨k, hk⟩ : ∃ k, cnt - i = k + 1 := ⟨cnt - i - 1, by omega⟩
   rw [hk, Ui]
   have hgd := hg (text.drop at') (by rw [List.length_drop]; omega)
   generalize hr : rd (text.drop at') = r at hgd ⊢
   obtain ⟨x, m, e⟩ := r
   simp only [] at hgd ⊢
   by_cases he : e = 0
   ·subst he
    obtain ⟨g1, g2, g3⟩ := hgd rfl
    rw [List.length_drop] at g2
    obtain ⟨mm, rfl⟩ := Int.eq_ofNat_of_zero_le g1
    rw [if_pos rfl, Q4w N text at' mm (by unfold Qaz; omega) ha (by omega), if_pos (by omega)]
    simp only [Option.bind_some]
    rw [if_neg (by decide), if_neg (by simp), if_pos (by simp [Nat.ble_eq]; omega), Qvr i (by omega), if_neg (by simp)]
    have ih := Qbk (R := R) (c := c) (v9 := v9) (tot := tot) hm ht hc h11 h9 h23 h25 hN hR hg n (i + 1) (at' + mm) (l ++ [x]) (by omega) (by omega) (by omega) (by simp [hl]) (by
     rw [Q0.szs_app]
     simp only [Q0.szs, Int.toNat_natCast] at g3 ⊢
     omega)
    rw [ih, show cnt - (i + 1) = k by omega, Q7k ha]
    simp only [Int.toNat_natCast]
   ·rw [if_neg he]
    rw [if_pos (show e ≠ 0 from he), if_pos (show e ≠ 0 from he), Qad he]
    by_cases h3 : e = 3
    ·rw [if_pos h3, if_pos h3]; rfl
    ·rw [if_neg h3, if_neg h3]; rfl
  ·rw [if_neg (by omega), show cnt - i = 0 by omega, Ui, Q70 N text at' 0 ha]
   simp only [Option.bind_some]
   unfold Qcl
   simp only []
   rw [if_neg (show ¬ ((0 : Int) ≠ 0) by simp)]
   by_cases hrest : text.drop at' = []
   ·have : text.length - at' = 0 := by
     have := congrArg List.length hrest
     rw [List.length_drop] at this; simpa using this
    rw [if_neg (by omega), if_neg (by simp [hrest])]
    have hsz : Q0.sz ⟨c.Kind, v25.1.Kind, [], l⟩ = 1 + Q0.szs l := by rw [Q0.sz_eq]
    rw [Qek N ⟨c.Kind, v25.1.Kind, [], l⟩ (by omega) (by omega)]
    simp only [Option.bind_some]
    split
    ·rfl
    ·simp only [Qr, Option.bind_some, h9]
   ·have : text.length - at' ≠ 0 := by
     intro h0
     exact hrest (List.drop_of_length_le (by omega))
    rw [if_pos (by omega), if_pos hrest]; rfl
end
end Go.Av
namespace Go.Av
noncomputable section
open Go.Proofs
set_option maxRecDepth 100000
def Qr5 (k : Int) : Bool := (Ux k).all (fun x => ofB x && (ofT x).1 == x && (ofT x).2.1 == k) && ((Ux k).zip (Ux k).tail).all (fun (x, y) => decide ((ofT x).2.2.1 ≤ (ofT y).2.2.1))
theorem Qnh : ((List.range 26).all fun k => Qr5 k) = true := by decide +kernel
theorem Qn6 (k : Int) : Qr5 k = true := by
 by_cases h : k < 1 ∨ 25 < k
 ·simp [Qr5, Q6a k h]
 ·have := List.all_eq_true.1 Qnh k.toNat (by simp; omega)
  rwa [show ((k.toNat : Nat) : Int) = k by omega] at this
theorem Q34 (k x : Int) (h : x ∈ Ux k) : ofB x = true ∧ (ofS x).Code = x ∧ (ofS x).Kind = k := by
 have := Qn6 k
 simp only [Qr5, Bool.and_eq_true, List.all_eq_true] at this
 have := this.1 x h
 simp only [beq_iff_eq] at this
 exact ⟨this.1.1, this.1.2, this.2⟩
end
end Go.Av
namespace Go.Av
noncomputable section
open Go.Proofs
set_option maxRecDepth 100000
theorem Qsa {R : Q0 → Option Q0} {N : Nat} {v : Q0} (hl : v.Items.length ≤ 1000) (hR : ∀ y ∈ v.Items, R y = some y) : ∀ (n i : Nat), i ≤ v.Items.length → v.Items.length - i < n →
  Ym R N v n (i : Int) (v.Items.take i) = some v
 | 0, i, _, h => by omega
 | n + 1, i, hi, hn => by
  simp only [Ym, Q6, Xo, Z9, Yb]
  by_cases h : i < v.Items.length
  ·rw [if_pos (by omega), List.getElem?_eq_getElem h]
   simp only [Option.bind_some, hR _ (List.getElem_mem h)]
   rw [if_pos (by simp [Nat.ble_eq]; omega), Qq _ (by omega), ← List.take_succ_eq_append_getElem h]
   exact_mod_cast Qsa hl hR n (i + 1) (by omega) (by omega)
  ·rw [if_neg (by omega), List.take_of_length_le (by omega)]; cases v; rfl
theorem Qs8 : ∀ (N : Nat) (v : Q0), v.sz < N → v.sz < 1000 → W6 N v = some v
 | 0, v, h, _ => by omega
 | N + 1, v, h, h2 => by
  have hs := v.sz_eq
  have hl := Q0.szs_len v.Items
  have := Qsa (R := W6 N) (N := N) (v := v) (by omega) (fun y hy => Qs8 N y (by have := Q0.szs_mem _ y hy; omega) (by have := Q0.szs_mem _ y hy; omega)) N 0 (by omega) (by omega)
  exact this
end
end Go.Av
namespace Go.Av
noncomputable section
open Go.Proofs
set_option maxRecDepth 100000
theorem Quu {c : Int} {v : Q0} (h : Q1q c v = true) : Qpk c v = (Q0z (ofS c) v, 0) := by
 unfold Qpk
 rw [if_neg (show ¬ (V6 v ≠ 0) by simp [(Q2c h).2.2.1]), h]; rfl
theorem Z0l {code : Int} {v : Q0} {k : Nat} (hf : Q1q code v = true) (hk : k < (Q0z (ofS code) v).length) : Qab code ((Q0z (ofS code) v).take k) = (Q0i, 0, 3) := by
 have hlen := Q6d hf
 obtain ⟨f1, f2, f3, f4⟩ := Q2c hf
 obtain ⟨c1, c2, c3, c4, c5, c6, c7⟩ := Jd f3
 have hw := Qbs code f1
 have hi := Gr hw (by omega)
 have hw0 : ((Q0z (ofS code) v).take k).length = k := by rw [List.length_take]; omega
 unfold Qab
 rw [f1, hi, if_neg (by simp), hw0]
 split
 ·rfl
 rename_i hkw
 cases hw.shape hi with
 | sized w hs hw' h12 hk2 hc =>
  simp only [hs, hw', if_true, Int.toNat_natCast] at hlen hkw ⊢
  have hkw : w ≤ k := by omega
  have e1 : ((Q0z (ofS code) v).take k).take w = Q1a v.Text.length w := by
   rw [List.take_take, Nat.min_eq_left hkw]
   unfold Q0z
   rw [hs, if_pos rfl, hw', Int.toNat_natCast, List.take_left' (Uw _ _)]
  have e3 : v.Text.length % 256 ^ w = v.Text.length := by
   apply Nat.mod_eq_of_lt
   unfold Q58 at f4
   rw [if_neg hc, hs, if_pos rfl, hw'] at f4
   rcases h12 with rfl | rfl
   ·simp at f4; omega
   ·omega
  rw [e1, Qaf, e3, if_pos (by omega)]
 | wide hs hw' hk2 hc =>
  simp only [hs, hw', Bool.false_eq_true, if_false] at hlen hkw
  have : (16 : Int).toNat = 16 := rfl
  omega
 | num w hs hw' hh ht hc hbb =>
  simp only [hs, hw', Bool.false_eq_true, if_false] at hlen hkw
  omega
end
end Go.Av
namespace Go.Av
noncomputable section
open Go.Proofs
set_option maxRecDepth 100000
theorem longer {a b : Int} {v : Q0} (ha : Q1q a v = true) (hb : Q1q b v = true) (hw : (ofS a).Width ≤ (ofS b).Width) : (Q0z (ofS a) v).length ≤ (Q0z (ofS b) v).length := by
 rw [Q6d ha, Q6d hb]
 obtain ⟨f1, f2, f3, f4⟩ := Q2c ha
 obtain ⟨g1, g2, g3, g4⟩ := Q2c hb
 obtain ⟨c1, c2, _⟩ := Jd f3
 have wa := Qbs a f1
 have wb := Qbs b g1
 have hs : (ofS a).Sized = true → (ofS b).Sized = true := fun hs => by
  obtain ⟨_, q1, q2, _⟩ := wa.sized (Gr wa (by omega)) hs
  cases wb.shape (Gr wb (by omega)) with
  | sized w hs hw' h12 hk2 hc => exact hs
  | wide hs hw' hk2 hc => omega
  | num w hs hw' hh ht hc hbb =>
   have := Qap (k := (ofS b).Kind) (by omega)
   rw [ht] at this; cases this
 cases h : (ofS a).Sized with
 | true => rw [hs h]; simp only [if_true]; omega
 | false => simp only [Bool.false_eq_true, if_false]; omega
end
end Go.Av
