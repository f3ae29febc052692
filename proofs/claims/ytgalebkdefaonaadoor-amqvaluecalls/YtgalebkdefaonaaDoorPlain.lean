/- The law. Part of a proof of a given statement: for every input the law returns true and the arguments read as before; no condition beyond the given row. -/
import Derived.Test.YtgalebkdefaonaaDoorLiftF0
import Derived.Test.YtgalebkdefaonaaDoorAvLift
import Derived.Test.YtgalebkdefaonaaDoorLiftF1
import Derived.Test.YtgalebkdefaonaaDoorLifts
import Derived.Test.YtgalebkdefaonaaDoorShV
namespace Go.Av
noncomputable section
open Go.Proofs
theorem cond_eq {α : Type} (b : Bool) (x y : α) : cond b x y = if b = true then x else y := by cases b <;> rfl
@[simp] theorem lss_t (x y : Int) : (cmpI .lss x y = true) = (x < y) := by simp [cmpI]
@[simp] theorem leq_t (x y : Int) : (cmpI .leq x y = true) = (x ≤ y) := by simp [cmpI]
@[simp] theorem gtr_t (x y : Int) : (cmpI .gtr x y = true) = (x > y) := by simp [cmpI]
@[simp] theorem geq_t (x y : Int) : (cmpI .geq x y = true) = (x ≥ y) := by simp [cmpI]
@[simp] theorem eql_t (x y : Int) : (cmpI .eql x y = true) = (x = y) := by simp [cmpI]
@[simp] theorem neq_t (x y : Int) : (cmpI .neq x y = true) = (x ≠ y) := by simp [cmpI]
theorem wrap64 (x : Int) (h : -9223372036854775808 ≤ x ∧ x ≤ 9223372036854775807) : IntKind.wrap .i64 x = x := IntWalk.i64_in x h
mutual
def SValue.sz : SValue → Nat
 | .mk _ _ _ is => 1 + SValue.szs is
def SValue.szs : List SValue → Nat
 | [] => 0
 | v :: l => v.sz + SValue.szs l
end
theorem SValue.sz_eq (v : SValue) : v.sz = 1 + SValue.szs v.Items := by cases v; simp [SValue.sz]
theorem SValue.szs_len : ∀ l : List SValue, l.length ≤ SValue.szs l
 | [] => by simp
 | v :: l => by
  have h1 := SValue.szs_len l
  have h2 := SValue.sz_eq v
  simp only [SValue.szs, List.length_cons]
  omega
theorem SValue.szs_mem : ∀ (l : List SValue) (v : SValue), v ∈ l → v.sz ≤ SValue.szs l
 | [], v, h => by cases h
 | u :: l, v, h => by
  simp only [SValue.szs]
  rcases List.mem_cons.1 h with rfl | h
  ·omega
  ·have := SValue.szs_mem l v h; omega
noncomputable instance : DecidableEq SValue := fun a b => Classical.propDecidable (a = b)
theorem rowsV_len (l : List SValue) : (SValue.rows l).length = l.length := by rw [SValue.rows_eq, rowsC_length]
theorem idx_nat {α : Type} (l : List α) (i : Nat) : idx l (i : Int) = l[i]? := rfl
theorem SameValue_L0 {R : SValue → SValue → Option Bool} {N : Nat} {a b : SValue} (hlen : a.Items.length = b.Items.length) (hb : a.Items.length < 4611686018427387904)
  (hR : ∀ y ∈ a.Items, ∀ z, R y z = some (decide (y = z))) : ∀ (n i : Nat), i ≤ a.Items.length → a.Items.length - i < n →
  BktSameValue_L0 R N a b n (i : Int) = some (decide (a.Items.drop i = b.Items.drop i))
 | 0, i, _, h => by omega
 | n + 1, i, h1, h2 => by
  simp only [BktSameValue_L0, cond_eq, lss_t, rowsV_len]
  by_cases hi : i < a.Items.length
  ·rw [if_pos (by omega), idx_nat, idx_nat, List.getElem?_eq_getElem hi, List.getElem?_eq_getElem (show i < b.Items.length by omega)]
   simp only [Option.bind_some, hR _ (List.getElem_mem hi)]
   rw [wrap64 _ (by omega)]
   have ih := SameValue_L0 (N := N) hlen hb hR n (i + 1) (by omega) (by omega)
   rw [List.drop_eq_getElem_cons hi, List.drop_eq_getElem_cons (show i < b.Items.length by omega)]
   by_cases he : a.Items[i] = b.Items[i]
   ·rw [← he]; simp only [decide_true, Bool.not_true, Bool.false_eq_true, if_false, List.cons.injEq, true_and]
    exact_mod_cast ih
   ·have hne : ¬ (a.Items[i] :: List.drop (i + 1) a.Items = b.Items[i] :: List.drop (i + 1) b.Items) := fun e => he (List.cons.inj e).1
    simp only [he, decide_false, Bool.not_false, if_true]
    rw [decide_eq_false hne]
  ·rw [if_neg (by omega), List.drop_of_length_le (by omega), List.drop_of_length_le (by omega)]
   simp
theorem cmpS_neq (x y : List UInt8) : (cmpS .neq x y = true) = (x ≠ y) := by simp [cmpS]
theorem SameValue_eq : ∀ (N : Nat) (a b : SValue), a.sz < N → a.sz < 1000000 → FktSameValue N a b = some (decide (a = b))
 | 0, a, b, h, _ => by have := a.sz_eq; omega
 | N + 1, a, b, h, h2 => by
  have hs := a.sz_eq
  have hl := SValue.szs_len a.Items
  simp only [FktSameValue, BktSameValue, cond_eq, neq_t, cmpS_neq, rowsV_len]
  by_cases e1 : a.Kind = b.Kind
  ·by_cases e2 : a.N' = b.N'
   ·by_cases e3 : a.Text = b.Text
    ·by_cases e4 : a.Items.length = b.Items.length
     ·rw [if_neg (by simp [e1]), if_neg (by simp [e2]), if_neg (by simp [e3]), if_neg (by simp [e4])]
      have := SameValue_L0 (N := N) (R := FktSameValue N) e4 (by omega) (fun y hy z => SameValue_eq N y z (by have := SValue.szs_mem _ y hy; omega) (by have := SValue.szs_mem _ y hy; omega)) N 0 (by omega) (by omega)
      rw [show (0 : Int) = ((0 : Nat) : Int) from rfl, this]
      cases a; cases b; simp_all
     ·rw [if_neg (by simp [e1]), if_neg (by simp [e2]), if_neg (by simp [e3]), if_pos (by omega)]
      have : a ≠ b := fun e => e4 (by rw [e])
      simp [this]
    ·rw [if_neg (by simp [e1]), if_neg (by simp [e2]), if_pos (by simpa using e3)]
     have : a ≠ b := fun e => e3 (by rw [e])
     simp [this]
   ·rw [if_neg (by simp [e1]), if_pos (by simpa using e2)]
    have : a ≠ b := fun e => e2 (by rw [e])
    simp [this]
  ·rw [if_pos (by simpa using e1)]
   have : a ≠ b := fun e => e1 (by rw [e])
   simp [this]
end
end Go.Av
namespace Go.Av
noncomputable section
open Go.Proofs
mutual
def SValue.txt : SValue → Prop
 | .mk _ _ t is => t.length ≤ 400 ∧ SValue.txts is
def SValue.txts : List SValue → Prop
 | [] => True
 | v :: l => v.txt ∧ SValue.txts l
end
theorem SValue.txt_eq (v : SValue) : v.txt = (v.Text.length ≤ 400 ∧ SValue.txts v.Items) := by cases v; simp [SValue.txt]
theorem SValue.szs_app : ∀ l m : List SValue, SValue.szs (l ++ m) = SValue.szs l + SValue.szs m
 | [], m => by simp [SValue.szs]
 | v :: l, m => by simp [SValue.szs, SValue.szs_app l m]; omega
theorem SValue.txts_app : ∀ l m : List SValue, SValue.txts (l ++ m) = (SValue.txts l ∧ SValue.txts m)
 | [], m => by simp [SValue.txts]
 | v :: l, m => by simp [SValue.txts, SValue.txts_app l m, and_assoc]
theorem nodes_L0 {R : SValue → Int → Int → Option Int} {N : Nat} {v : SValue} {deep most : Int} (hd : 0 ≤ deep ∧ deep ≤ 6) (hm : 0 ≤ most ∧ most ≤ 40) (hl : (v.Items.length : Int) ≤ most)
  (hR : ∀ y (m : Int), 0 ≤ m → m ≤ 40 → ∃ r, R y (deep - 1) m = some r ∧ 1 ≤ r ∧ r ≤ m + 1 ∧ (r ≤ m → r = y.sz ∧ y.txt)) : ∀ (n : Nat) (k : Int) (i : Nat), i ≤ v.Items.length → v.Items.length - i < n →
  1 ≤ k → k ≤ most + 1 → (k ≤ most → k = 1 + SValue.szs (v.Items.take i) ∧ SValue.txts (v.Items.take i)) →
  ∃ r, Bktnodes_L0 R N v deep most n k (i : Int) = some r ∧ 1 ≤ r ∧ r ≤ most + 1 ∧ (r ≤ most → r = 1 + SValue.szs v.Items ∧ SValue.txts v.Items)
 | 0, _, _, _, h, _, _, _ => by omega
 | n + 1, k, i, h1, h2, hk1, hk2, hk3 => by
  simp only [Bktnodes_L0, cond_eq, lss_t, leq_t, rowsV_len]
  by_cases hi : i < v.Items.length
  ·rw [if_pos (by omega)]
   by_cases hkm : k ≤ most
   ·rw [if_pos hkm, idx_nat, List.getElem?_eq_getElem hi, wrap64 (deep - 1) (by omega), wrap64 (most - k) (by omega)]
    obtain ⟨r, r1, r2, r3, r4⟩ := hR v.Items[i] (most - k) (by omega) (by omega)
    simp only [Option.bind_some, r1]
    rw [wrap64 (k + r) (by omega), wrap64 ((i : Int) + 1) (by omega)]
    have := nodes_L0 (N := N) hd hm hl hR n (k + r) (i + 1) (by omega) (by omega) (by omega) (by omega) (fun h => by
     obtain ⟨q1, q2⟩ := r4 (by omega)
     obtain ⟨q3, q4⟩ := hk3 hkm
     rw [List.take_succ_eq_append_getElem hi, SValue.szs_app, SValue.txts_app]
     refine ⟨?_, q4, ?_⟩
     ·simp only [SValue.szs]; omega
     ·simp only [SValue.txts]; exact ⟨q2, trivial⟩)
    exact_mod_cast this
   ·rw [if_neg hkm]
    exact ⟨k, rfl, hk1, hk2, fun h => absurd h hkm⟩
  ·rw [if_neg (by omega)]
   refine ⟨k, rfl, hk1, hk2, fun h => ?_⟩
   have := hk3 h
   rwa [List.take_of_length_le (by omega)] at this
theorem nodes_spec : ∀ (N : Nat) (v : SValue) (deep most : Int), -1 ≤ deep → deep ≤ 6 → 0 ≤ most → most ≤ 40 → deep + 50 < N →
  ∃ r, Fktnodes N v deep most = some r ∧ 1 ≤ r ∧ r ≤ most + 1 ∧ (r ≤ most → r = v.sz ∧ v.txt)
 | 0, v, deep, most, h1, h2, h3, h4, h5 => by omega
 | N + 1, v, deep, most, h1, h2, h3, h4, h5 => by
  simp only [Fktnodes, Bktnodes, cond_eq, lss_t, gtr_t, rowsV_len, wrap64 (most + 1) (show _ by omega)]
  by_cases e1 : deep < 0
  ·rw [if_pos e1]; exact ⟨_, rfl, by omega, by omega, fun h => by omega⟩
  rw [if_neg e1]
  by_cases e2 : (v.Items.length : Int) > most
  ·rw [if_pos e2]; exact ⟨_, rfl, by omega, by omega, fun h => by omega⟩
  rw [if_neg e2]
  by_cases e3 : (v.Text.length : Int) > 400
  ·rw [if_pos e3]; exact ⟨_, rfl, by omega, by omega, fun h => by omega⟩
  rw [if_neg e3]
  have := nodes_L0 (N := N) (R := Fktnodes N) (v := v) (deep := deep) (most := most) ⟨by omega, h2⟩ ⟨h3, h4⟩ (by omega)
   (fun y m hm1 hm2 => nodes_spec N y (deep - 1) m (by omega) (by omega) hm1 hm2 (by omega)) N 1 0 (by omega) (by omega) (by omega) (by omega) (fun _ => by simp [SValue.szs, SValue.txts])
  obtain ⟨r, r1, r2, r3, r4⟩ := this
  refine ⟨r, r1, r2, r3, fun h => ?_⟩
  obtain ⟨q1, q2⟩ := r4 h
  have hs := v.sz_eq
  rw [SValue.txt_eq]
  exact ⟨by omega, by omega, q2⟩
theorem Light_spec (N : Nat) (v : SValue) (h : 60 < N) : ∃ b, FktLightValue N v = some b ∧ (b = true → v.sz ≤ 40 ∧ v.txt) := by
 obtain ⟨r, r1, r2, r3, r4⟩ := nodes_spec N v 6 40 (by omega) (by omega) (by omega) (by omega) (by omega)
 refine ⟨cmpI .leq r 40, by simp [FktLightValue, r1], fun h => ?_⟩
 rw [leq_t] at h
 obtain ⟨q1, q2⟩ := r4 h
 exact ⟨by omega, q2⟩
end
end Go.Av
namespace Go.Av
noncomputable section
open Go.Proofs
def bitsS (k : Int) : Int × Bool :=
 if k = 2 then (1, false) else if k = 3 then (8, false) else if k = 4 then (16, false)
 else if k = 5 ∨ k = 11 ∨ k = 13 ∨ k = 16 then (32, false) else if k = 6 ∨ k = 12 ∨ k = 14 then (64, false)
 else if k = 7 then (8, true) else if k = 8 then (16, true) else if k = 9 then (32, true) else if k = 10 ∨ k = 17 then (64, true) else (0, false)
theorem bits_eq (N : Nat) (k : Int) : Fapbits N k = some (bitsS k) := by
 by_cases h2 : k = 2
 ·subst h2; rfl
 by_cases h3 : k = 3
 ·subst h3; rfl
 by_cases h4 : k = 4
 ·subst h4; rfl
 by_cases h5 : k = 5
 ·subst h5; rfl
 by_cases h11 : k = 11
 ·subst h11; rfl
 by_cases h13 : k = 13
 ·subst h13; rfl
 by_cases h16 : k = 16
 ·subst h16; rfl
 by_cases h6 : k = 6
 ·subst h6; rfl
 by_cases h12 : k = 12
 ·subst h12; rfl
 by_cases h14 : k = 14
 ·subst h14; rfl
 by_cases h7 : k = 7
 ·subst h7; rfl
 by_cases h8 : k = 8
 ·subst h8; rfl
 by_cases h9 : k = 9
 ·subst h9; rfl
 by_cases h10 : k = 10
 ·subst h10; rfl
 by_cases h17 : k = 17
 ·subst h17; rfl
 unfold Fapbits bitsS
 simp [cond_eq, h2, h3, h4, h5, h11, h13, h16, h6, h12, h14, h7, h8, h9, h10, h17]
def textS (k : Int) : Bool := decide (k = 15 ∨ k = 18 ∨ k = 19 ∨ k = 20 ∨ k = 21)
theorem textual_eq (N : Nat) (k : Int) : Faptextual N k = some (textS k) := by
 unfold Faptextual textS
 simp only [cond_eq, eql_t]
 repeat' split
 all_goals simp_all
def charS (n : Int) : Bool := decide (n ≤ 1114111 ∧ ¬ (55296 ≤ n ∧ n ≤ 57343))
theorem codePoint_eq (N : Nat) (n : Int) (h0 : 0 ≤ n) : FapcodePoint N n = some (charS n) := by
 unfold FapcodePoint F_unicode_utf8_ValidRune charS
 simp only [cond_eq, leq_t, lss_t]
 by_cases h : n ≤ 1114111
 ·have hw : IntKind.wrap .i32 n = n := by
   simp only [IntKind.wrap, IntKind.bits, IntKind.signed]
   simp
   omega
  rw [if_pos h, hw]
  repeat' split
  all_goals (simp; omega)
 ·rw [if_neg h]
  simp [h]
def s64 (n : Int) : Int := if n < 9223372036854775808 then n else n - 18446744073709551616
theorem wrap_s64 (n : Int) (h0 : 0 ≤ n) (h1 : n < 18446744073709551616) : IntKind.i64.wrap n = s64 n := by
 unfold s64
 split
 ·exact IntWalk.i64_in n (by omega)
 ·simp only [IntKind.wrap, IntKind.bits, IntKind.signed]
  simp
  omega
def fitsS (n bits : Int) (signed : Bool) : Bool := if signed then decide (-(2 ^ (bits.toNat - 1)) ≤ s64 n ∧ s64 n < 2 ^ (bits.toNat - 1)) else decide (n < 2 ^ bits.toNat)
theorem two_pow_le {m k : Nat} (h : m ≤ k) : (2 : Int) ^ m ≤ 2 ^ k := by
 have := Nat.pow_le_pow_right (n := 2) (by omega) h
 exact_mod_cast this
theorem two_pow_pos (m : Nat) : (1 : Int) ≤ 2 ^ m := by
 have := Nat.one_le_two_pow (n := m)
 exact_mod_cast this
theorem shl_low (k : Int) (h0 : 0 ≤ k) (h1 : k ≤ 63) : IntKind.i64.wrap (-1 * 2 ^ min (IntKind.i64.wrap k).toNat IntKind.i64.bits) = -(2 ^ k.toNat) := by
 have e1 : IntKind.i64.wrap k = k := IntWalk.i64_in _ (by omega)
 have e2 : min k.toNat IntKind.i64.bits = k.toNat := by simp [IntKind.bits]; omega
 have h2 := two_pow_le (m := k.toNat) (k := 63) (by omega)
 have h3 := two_pow_pos k.toNat
 rw [e1, e2, IntWalk.i64_in _ (by omega)]
 omega
theorem fitsBits_eq (N : Nat) (n bits : Int) (signed : Bool) (h0 : 0 ≤ n) (h1 : n < 18446744073709551616) (hb0 : 0 ≤ bits) (hb1 : bits ≤ 64) (hs : signed = true → 1 ≤ bits) :
  FapfitsBits N n bits signed = some (fitsS n bits signed) := by
 unfold FapfitsBits
 cases signed
 ·simp only [cond_eq, eql_t, Bool.false_eq_true, if_false, decide_eq_true_eq]
  by_cases h : bits = 64
  ·rw [if_pos h]
   subst h
   simp only [fitsS, Bool.false_eq_true, if_false, Option.some.injEq]
   exact (decide_eq_true (by simpa using h1)).symm
  ·rw [if_neg h, if_pos hb0]
   simp only [fitsS, Bool.false_eq_true, if_false, Option.some.injEq, cmpI, shrI]
   have e2 : min bits.toNat IntKind.u64.bits = bits.toNat := by simp [IntKind.bits]; omega
   rw [e2, Bool.eq_iff_iff]
   simp only [beq_iff_eq, decide_eq_true_eq]
   have h3 := two_pow_pos bits.toNat
   rw [Int.fdiv_eq_ediv_of_nonneg _ (by omega)]
   constructor
   ·intro h4
    have := Int.lt_ediv_add_one_mul_self n (show (0 : Int) < 2 ^ bits.toNat by omega)
    rw [h4] at this
    simpa using this
   ·intro h4
    exact Int.ediv_eq_zero_of_lt h0 h4
 ·have hs := hs rfl
  have e1 : IntKind.i64.wrap (bits - 1) = bits - 1 := IntWalk.i64_in _ (by omega)
  have e2 := shl_low (bits - 1) (by omega) (by omega)
  have e3 := wrap_s64 n h0 h1
  have h2 := two_pow_le (m := (bits - 1).toNat) (k := 63) (by omega)
  have h3 := two_pow_pos (bits - 1).toNat
  have e4 : (bits - 1).toNat = bits.toNat - 1 := by omega
  rw [e1] at e2
  simp only [cond_eq, geq_t, if_true, decide_eq_true_eq, shlI, e1, e2, e3]
  rw [if_pos (by omega), IntWalk.i64_in (-2 ^ (bits - 1).toNat + 1) (by omega), IntWalk.i64_in (0 - (-2 ^ (bits - 1).toNat + 1)) (by omega)]
  rw [e4] at h2 h3 ⊢
  split
  ·rename_i h
   simp only [fitsS, if_true, Option.some.injEq, cmpI, decide_eq_decide]
   omega
  ·rename_i h
   simp only [fitsS, if_true, Option.some.injEq]
   exact (decide_eq_false (by omega)).symm
end
end Go.Av
namespace Go.Av
noncomputable section
def numB (s : List UInt8) : Nat := s.foldl (fun a b => a * 256 + b.toNat) 0
theorem numB_app1 (s : List UInt8) (b : UInt8) : numB (s ++ [b]) = numB s * 256 + b.toNat := by simp [numB]
def bigB : Nat → Nat → List UInt8
 | _, 0 => []
 | n, w + 1 => bigB (n / 256) w ++ [UInt8.ofNat (n % 256)]
theorem bigB_len : ∀ (w n : Nat), (bigB n w).length = w
 | 0, _ => rfl
 | w + 1, n => by simp [bigB, bigB_len w]
theorem numB_big : ∀ (w n : Nat), numB (bigB n w) = n % 256 ^ w
 | 0, n => by simp [bigB, numB, Nat.mod_one]
 | w + 1, n => by
  rw [bigB, numB_app1, numB_big w, Nat.pow_succ, Nat.mul_comm (256 ^ w) 256, Nat.mod_mul]
  have : (UInt8.ofNat (n % 256)).toNat = n % 256 := by simp
  rw [this]; omega
theorem revInd {α : Type} {P : List α → Prop} (h0 : P []) (h1 : ∀ s b, P s → P (s ++ [b])) (s : List α) : P s := by
 have h : ∀ t : List α, P t.reverse := by
  intro t
  induction t with
  | nil => exact h0
  | cons b t ih => rw [List.reverse_cons]; exact h1 _ _ ih
 have := h s.reverse
 rwa [List.reverse_reverse] at this
theorem numB_lt : ∀ (s : List UInt8), numB s < 256 ^ s.length := by
 refine revInd (by simp [numB]) (fun s b ih => ?_)
 ·rw [numB_app1, List.length_append, List.length_singleton, Nat.pow_succ]
  have := b.toNat_lt
  simp at this
  omega
theorem big_num : ∀ (s : List UInt8), bigB (numB s) s.length = s := by
 refine revInd rfl (fun s b ih => ?_)
 ·rw [numB_app1, List.length_append, List.length_singleton, bigB]
  have hb := b.toNat_lt
  simp at hb
  rw [show (numB s * 256 + b.toNat) / 256 = numB s by omega, ih, show (numB s * 256 + b.toNat) % 256 = b.toNat by omega]
  simp
theorem bigB_mod : ∀ (w n : Nat), bigB (n % 256 ^ w) w = bigB n w
 | 0, n => rfl
 | w + 1, n => by
  have h := bigB_mod w (n / 256)
  rw [bigB, bigB, Nat.pow_succ, Nat.mul_comm (256 ^ w) 256, Nat.mod_mul]
  rw [show (n % 256 + 256 * (n / 256 % 256 ^ w)) / 256 = n / 256 % 256 ^ w by omega, h, show (n % 256 + 256 * (n / 256 % 256 ^ w)) % 256 = n % 256 by omega]
end
end Go.Av
namespace Go.Av
noncomputable section
open Go.Proofs
def inB (s : List UInt8) (i lo hi : Nat) : Bool := match s[i]? with
 | some b => decide (lo ≤ b.toNat ∧ b.toNat ≤ hi)
 | none => false
def cpN (s : List UInt8) : Nat := match s with
 | [] => 0
 | c :: _ => if c.toNat < 128 then 1
  else if 194 ≤ c.toNat ∧ c.toNat ≤ 223 then (if inB s 1 128 191 then 2 else 0)
  else if c.toNat = 224 then (if inB s 1 160 191 && inB s 2 128 191 then 3 else 0)
  else if c.toNat = 237 then (if inB s 1 128 159 && inB s 2 128 191 then 3 else 0)
  else if 225 ≤ c.toNat ∧ c.toNat ≤ 239 then (if inB s 1 128 191 && inB s 2 128 191 then 3 else 0)
  else if c.toNat = 240 then (if inB s 1 144 191 && inB s 2 128 191 && inB s 3 128 191 then 4 else 0)
  else if 241 ≤ c.toNat ∧ c.toNat ≤ 243 then (if inB s 1 128 191 && inB s 2 128 191 && inB s 3 128 191 then 4 else 0)
  else if c.toNat = 244 then (if inB s 1 128 143 && inB s 2 128 191 && inB s 3 128 191 then 4 else 0)
  else 0
def validN : Nat → List UInt8 → Bool
 | 0, s => s.isEmpty
 | n + 1, s => if s.isEmpty then true else match cpN s with
  | 0 => false
  | k + 1 => validN n (s.drop (k + 1))
def validF (s : List UInt8) : Bool := validN s.length s
theorem validN_eq : ∀ (n m : Nat) (s : List UInt8), s.length ≤ n → s.length ≤ m → validN n s = validN m s
 | 0, 0, s, _, _ => rfl
 | 0, m + 1, s, h, _ => by
  have : s = [] := List.length_eq_zero_iff.1 (by omega)
  subst this; simp [validN]
 | n + 1, 0, s, _, h => by
  have : s = [] := List.length_eq_zero_iff.1 (by omega)
  subst this; simp [validN]
 | n + 1, m + 1, s, h1, h2 => by
  simp only [validN]
  cases s with
  | nil => rfl
  | cons c r =>
   simp only [List.isEmpty_cons, Bool.false_eq_true, if_false]
   split
   ·rfl
   ·exact validN_eq n m _ (by simp at h1 ⊢; omega) (by simp at h2 ⊢; omega)
theorem valid_nil : validF [] = true := rfl
theorem valid_bad (s : List UInt8) (hne : s ≠ []) (h : cpN s = 0) : validF s = false := by
 cases s with
 | nil => exact absurd rfl hne
 | cons c r => unfold validF; simp only [List.length_cons, validN, h]; rfl
theorem valid_step (s : List UInt8) (k : Nat) (h : cpN s = k + 1) : validF s = validF (s.drop (k + 1)) := by
 cases s with
 | nil => simp [cpN] at h
 | cons c r =>
  unfold validF
  simp only [List.length_cons, validN, h, List.isEmpty_cons, Bool.false_eq_true, if_false]
  exact validN_eq _ _ _ (by simp) (by simp)
theorem valid_ascii : ∀ (k : Nat) (s : List UInt8), (∀ b ∈ s.take k, b < 128) → validF s = validF (s.drop k)
 | 0, s, _ => by simp
 | k + 1, [], _ => by simp
 | k + 1, c :: r, h => by
  have hc : c < 128 := h c (by simp)
  have h1 : cpN (c :: r) = 1 := by simp only [cpN]; rw [if_pos (by exact hc)]
  rw [valid_step (c :: r) 0 h1]
  simpa using valid_ascii k r (fun b hb => h b (by simp [hb]))
def asciiF (s : List UInt8) : Bool := s.all fun b => decide (b.toNat < 128)
def okNum (k n : Int) : Bool := fitsS n (bitsS k).1 (bitsS k).2 && (k != 16 || charS n)
def textE (k : Int) (t : List UInt8) : Int := if k = 20 then (if validF t then 0 else 6) else if k = 21 then (if asciiF t then 0 else 6) else 0
def checkS (v : SValue) : Int :=
 if v.Kind < 1 ∨ 21 < v.Kind then 8
 else if okNum v.Kind v.N' = false ∨ v.Items ≠ [] then 2
 else if textS v.Kind = false then (if v.Text ≠ [] then 2 else 0)
 else if (v.Kind = 15 ∨ v.Kind = 18) ∧ v.Text.length ≠ 16 then 2
 else if 1048576 < v.Text.length then 4 else textE v.Kind v.Text
def saysS (c : SCtor) (v : SValue) : Bool :=
 if c.Code = 65 then decide (v.N' = 1) else if c.Sized then decide (c.Width = 4 ∨ v.Text.length ≤ 255)
 else if c.Width = 0 then decide (v.N' = 0) else if c.Width = 1 then fitsS v.N' 8 (bitsS c.Kind).2 else true
def fitsC (code : Int) (v : SValue) : Bool := ofB code && decide ((ofS code).Kind = v.Kind) && decide (checkS v = 0) && saysS (ofS code) v
def dataS (c : SCtor) (v : SValue) : List UInt8 :=
 if c.Sized then bigB v.Text.length c.Width.toNat ++ v.Text else if c.Width = 16 then v.Text else bigB v.N'.toNat c.Width.toNat
def widenS (c : SCtor) (n : Int) : Int := if (bitsS c.Kind).2 = true ∧ 0 < c.Width ∧ 2 ^ (8 * c.Width.toNat - 1) ≤ n then n + (18446744073709551616 - 2 ^ (8 * c.Width.toNat)) else n
def zeroV : SValue := ⟨0, 0, [], []⟩
def finS (v : SValue) (n : Int) : SValue × Int × Int := if checkS v = 0 then (v, n, 0) else (zeroV, 0, if checkS v = 2 then 5 else checkS v)
def getS (code : Int) (s : List UInt8) : SValue × Int × Int :=
 if ofB code = false ∨ (ofS code).Items = true then (zeroV, 0, 8)
 else if (s.length : Int) < (ofS code).Width then (zeroV, 0, 3)
 else if (ofS code).Sized = true then
  if s.length - (ofS code).Width.toNat < numB (s.take (ofS code).Width.toNat) then (zeroV, 0, 3)
  else finS ⟨(ofS code).Kind, 0, (s.drop (ofS code).Width.toNat).take (numB (s.take (ofS code).Width.toNat)), []⟩ ((ofS code).Width + numB (s.take (ofS code).Width.toNat))
 else if (ofS code).Width = 16 then finS ⟨(ofS code).Kind, 0, s.take 16, []⟩ 16
 else if (ofS code).Code = 65 then finS ⟨(ofS code).Kind, 1, [], []⟩ 0
 else finS ⟨(ofS code).Kind, widenS (ofS code) (numB (s.take (ofS code).Width.toNat)), [], []⟩ (ofS code).Width
end
end Go.Av
namespace Go.Av
noncomputable section
open Go.Proofs
set_option maxRecDepth 100000
def wordN : List UInt8 → Nat
 | [] => 0
 | b :: r => b.toNat + 256 * wordN r
theorem wordN_lt : ∀ (s : List UInt8) (k : Nat), s.length ≤ k → wordN s < 256 ^ k
 | [], k, _ => Nat.pow_pos (by omega)
 | b :: r, 0, h => by simp at h
 | b :: r, k + 1, h => by
  have h1 := wordN_lt r k (by simpa using h)
  have h2 : b.toNat < 256 := b.toNat_lt
  rw [wordN, Nat.pow_succ]
  omega
theorem u64_or (a b : Nat) (n m : Nat) (ha : a < 2 ^ n) (hb : b < 2 ^ m) (hn : n + m ≤ 64) :
  IntKind.u64.wrap (((BitVec.ofInt IntKind.u64.bits (a : Int) ||| BitVec.ofInt IntKind.u64.bits (IntKind.u64.wrap ((b : Int) * 2 ^ min n IntKind.u64.bits))).toNat : Nat) : Int) = ((a + 2 ^ n * b : Nat) : Int) := by
 have h64 : IntKind.u64.bits = 64 := rfl
 have hw : ∀ z : Int, IntKind.u64.wrap z = z % 18446744073709551616 := fun z => by simp [IntKind.wrap, IntKind.bits, IntKind.signed]
 have hnn : min n 64 = n := by omega
 have hp : 2 ^ n * b < 2 ^ 64 := by
  calc 2 ^ n * b < 2 ^ n * 2 ^ m := Nat.mul_lt_mul_of_pos_left hb (Nat.two_pow_pos n)
   _ = 2 ^ (n + m) := (Nat.pow_add 2 n m).symm
   _ ≤ 2 ^ 64 := Nat.pow_le_pow_right (by omega) hn
 have ha64 : a < 2 ^ 64 := Nat.lt_of_lt_of_le ha (Nat.pow_le_pow_right (by omega) (by omega))
 have e1 : ((b : Int) * 2 ^ n) = ((2 ^ n * b : Nat) : Int) := by push_cast; exact Int.mul_comm _ _
 rw [h64, hnn, e1, hw, hw]
 have e2 : ((2 ^ n * b : Nat) : Int) % 18446744073709551616 = ((2 ^ n * b : Nat) : Int) := by
  rw [Int.emod_eq_of_lt (by omega) (by have : (2 : Nat) ^ 64 = 18446744073709551616 := rfl; omega)]
 rw [e2, BitVec.ofInt_natCast, BitVec.ofInt_natCast, BitVec.toNat_or, BitVec.toNat_ofNat, BitVec.toNat_ofNat, Nat.mod_eq_of_lt ha64, Nat.mod_eq_of_lt hp]
 have e3 : a ||| 2 ^ n * b = a + 2 ^ n * b := by
  have := Nat.shiftLeft_add_eq_or_of_lt ha b
  rw [Nat.shiftLeft_eq, Nat.mul_comm] at this
  rw [Nat.or_comm, ← this, Nat.add_comm]
 rw [e3]
 have e4 : a + 2 ^ n * b < 18446744073709551616 := by
  have hb2 : b + 1 ≤ 2 ^ m := hb
  have : 2 ^ n * (b + 1) ≤ 2 ^ n * 2 ^ m := Nat.mul_le_mul_left _ hb2
  rw [← Nat.pow_add] at this
  have h5 : 2 ^ (n + m) ≤ 2 ^ 64 := Nat.pow_le_pow_right (by omega) hn
  rw [Nat.mul_add, Nat.mul_one] at this
  have : (2 : Nat) ^ 64 = 18446744073709551616 := rfl
  omega
 rw [Int.emod_eq_of_lt (by omega) (by omega)]
theorem u64_byte (b : UInt8) : IntKind.u64.wrap ((b.toNat : Nat) : Int) = ((b.toNat : Nat) : Int) := by
 have := b.toNat_lt
 simp only [IntKind.wrap, IntKind.bits, IntKind.signed]
 simp
 omega
theorem word_eq (N : Nat) (b0 b1 b2 b3 b4 b5 b6 b7 : UInt8) (r : List UInt8) : F_unicode_utf8_word_string N (b0 :: b1 :: b2 :: b3 :: b4 :: b5 :: b6 :: b7 :: r) = some (wordN [b0, b1, b2, b3, b4, b5, b6, b7] : Nat) := by
 have l0 := b0.toNat_lt; have l1 := b1.toNat_lt; have l2 := b2.toNat_lt; have l3 := b3.toNat_lt
 have l4 := b4.toNat_lt; have l5 := b5.toNat_lt; have l6 := b6.toNat_lt; have l7 := b7.toNat_lt
 show some _ = some _
 simp only [orI, shlI, u64_byte]
 have t8 : Int.toNat 8 = 8 := rfl
 have t16 : Int.toNat 16 = 16 := rfl
 have t24 : Int.toNat 24 = 24 := rfl
 have t32 : Int.toNat 32 = 32 := rfl
 have t40 : Int.toNat 40 = 40 := rfl
 have t48 : Int.toNat 48 = 48 := rfl
 have t56 : Int.toNat 56 = 56 := rfl
 rw [t8, t16, t24, t32, t40, t48, t56]
 rw [u64_or b0.toNat b1.toNat 8 8 l0 l1 (by omega)]
 rw [u64_or _ b2.toNat 16 8 (by omega) l2 (by omega)]
 rw [u64_or _ b3.toNat 24 8 (by omega) l3 (by omega)]
 rw [u64_or _ b4.toNat 32 8 (by omega) l4 (by omega)]
 rw [u64_or _ b5.toNat 40 8 (by omega) l5 (by omega)]
 rw [u64_or _ b6.toNat 48 8 (by omega) l6 (by omega)]
 rw [u64_or _ b7.toNat 56 8 (by omega) l7 (by omega)]
 simp only [wordN, Option.some.injEq]
 omega
theorem word_take (N : Nat) (s : List UInt8) (h : 8 ≤ s.length) : F_unicode_utf8_word_string N s = some ((wordN (s.take 8) : Nat) : Int) := by
 match s, h with
 | b0 :: b1 :: b2 :: b3 :: b4 :: b5 :: b6 :: b7 :: r, _ => exact word_eq N b0 b1 b2 b3 b4 b5 b6 b7 r
theorem mask_zero : ∀ (s : List UInt8) (m : Nat), m = wordN (List.replicate s.length 128) → (wordN s &&& m = 0 ↔ ∀ b ∈ s, b < 128)
 | [], m, h => by subst h; simp [wordN]
 | b :: r, m, h => by
  have ih := mask_zero r _ rfl
  have hb0 : ∀ n, n < 256 → (n &&& 128 = 0 ↔ n < 128) := by decide
  have hb : ∀ c : UInt8, c.toNat &&& 128 = 0 ↔ c < 128 := fun c => (hb0 c.toNat c.toNat_lt).trans Iff.rfl
  rw [List.length_cons, List.replicate_succ, wordN] at h
  generalize wordN (List.replicate r.length 128) = q at h ih
  have e1 : (128 : UInt8).toNat = 128 := rfl
  rw [e1] at h
  have key : ∀ z : Nat, z = 0 ↔ z % 2 ^ 8 = 0 ∧ z / 2 ^ 8 = 0 := fun z => by omega
  have hlt := b.toNat_lt
  rw [wordN, h, key, Nat.and_mod_two_pow, Nat.and_div_two_pow]
  have d1 : (b.toNat + 256 * wordN r) % 2 ^ 8 = b.toNat := by omega
  have d2 : (128 + 256 * q) % 2 ^ 8 = 128 := by omega
  have d3 : (b.toNat + 256 * wordN r) / 2 ^ 8 = wordN r := by omega
  have d4 : (128 + 256 * q) / 2 ^ 8 = q := by omega
  rw [d1, d2, d3, d4, hb, ih]
  simp
theorem u64_wrap (n : Nat) (h : n < 18446744073709551616) : IntKind.u64.wrap (n : Int) = n := by
 simp only [IntKind.wrap, IntKind.bits, IntKind.signed]
 simp; omega
theorem andI_nat (a b : Nat) (ha : a < 18446744073709551616) (hb : b < 18446744073709551616) : andI .u64 (a : Int) (b : Int) = ((a &&& b : Nat) : Int) := by
 have hl : a &&& b ≤ a := Nat.and_le_left
 have h64 : IntKind.u64.bits = 64 := rfl
 have p64 : (2 : Nat) ^ 64 = 18446744073709551616 := rfl
 simp only [andI]
 rw [h64, BitVec.ofInt_natCast, BitVec.ofInt_natCast, BitVec.toNat_and, BitVec.toNat_ofNat, BitVec.toNat_ofNat, Nat.mod_eq_of_lt (by omega), Nat.mod_eq_of_lt (by omega), u64_wrap _ (by omega)]
theorem orI_nat (a b : Nat) (ha : a < 18446744073709551616) (hb : b < 18446744073709551616) : orI .u64 (a : Int) (b : Int) = ((a ||| b : Nat) : Int) ∧ (a ||| b) < 18446744073709551616 := by
 have h64 : IntKind.u64.bits = 64 := rfl
 have p64 : (2 : Nat) ^ 64 = 18446744073709551616 := rfl
 have hl : a ||| b < 2 ^ 64 := Nat.or_lt_two_pow (by omega) (by omega)
 simp only [orI]
 rw [h64, BitVec.ofInt_natCast, BitVec.ofInt_natCast, BitVec.toNat_or, BitVec.toNat_ofNat, BitVec.toNat_ofNat, Nat.mod_eq_of_lt (by omega), Nat.mod_eq_of_lt (by omega), u64_wrap _ (by omega)]
 exact ⟨rfl, by omega⟩
theorem or_zero (a b m : Nat) : (a ||| b) &&& m = 0 ↔ a &&& m = 0 ∧ b &&& m = 0 := by
 rw [Nat.and_or_distrib_right]
 constructor
 ·intro h
  have h1 : a &&& m ≤ (a &&& m) ||| (b &&& m) := Nat.left_le_or
  have h2 : b &&& m ≤ (a &&& m) ||| (b &&& m) := Nat.right_le_or
  omega
 ·rintro ⟨h1, h2⟩; rw [h1, h2]; rfl
theorem word_lt (s : List UInt8) : wordN (s.take 8) < 18446744073709551616 := by
 have := wordN_lt (s.take 8) 8 (by simp; omega)
 simpa using this
def M8 : Nat := 9259542123273814144
theorem mask8 (s : List UInt8) (h : 8 ≤ s.length) : wordN (s.take 8) &&& M8 = 0 ↔ ∀ b ∈ s.take 8, b < 128 := mask_zero _ _ (by rw [List.length_take, Nat.min_eq_left h]; rfl)
theorem asc8 (s : List UInt8) (h : 8 ≤ s.length) (hm : wordN (s.take 8) &&& M8 = 0) : validF s = validF (s.drop 8) := valid_ascii 8 s ((mask8 s h).1 hm)
theorem mask1 (s : List UInt8) : (andI .u64 ((wordN (s.take 8) : Nat) : Int) 9259542123273814144 = 0) = (wordN (s.take 8) &&& M8 = 0) := by
 have h1 := word_lt s
 rw [show (9259542123273814144 : Int) = ((M8 : Nat) : Int) from rfl, andI_nat _ _ h1 (by decide)]
 apply propext; omega
theorem mask2 (s t : List UInt8) : (andI .u64 (orI .u64 ((wordN (s.take 8) : Nat) : Int) ((wordN (t.take 8) : Nat) : Int)) 9259542123273814144 = 0) = (wordN (s.take 8) &&& M8 = 0 ∧ wordN (t.take 8) &&& M8 = 0) := by
 obtain ⟨h1, h2⟩ := orI_nat _ _ (word_lt s) (word_lt t)
 rw [h1, show (9259542123273814144 : Int) = ((M8 : Nat) : Int) from rfl, andI_nat _ _ h2 (by decide)]
 rw [← or_zero]
 apply propext; omega
theorem mask4 (s t u v : List UInt8) : (andI .u64 (orI .u64 (orI .u64 ((wordN (s.take 8) : Nat) : Int) ((wordN (t.take 8) : Nat) : Int)) (orI .u64 ((wordN (u.take 8) : Nat) : Int) ((wordN (v.take 8) : Nat) : Int))) 9259542123273814144 = 0) =
  (wordN (s.take 8) &&& M8 = 0 ∧ wordN (t.take 8) &&& M8 = 0 ∧ wordN (u.take 8) &&& M8 = 0 ∧ wordN (v.take 8) &&& M8 = 0) := by
 obtain ⟨h1, h2⟩ := orI_nat _ _ (word_lt s) (word_lt t)
 obtain ⟨h3, h4⟩ := orI_nat _ _ (word_lt u) (word_lt v)
 obtain ⟨h5, h6⟩ := orI_nat _ _ h2 h4
 rw [h1, h3, h5, show (9259542123273814144 : Int) = ((M8 : Nat) : Int) from rfl, andI_nat _ _ h6 (by decide)]
 rw [show (wordN (s.take 8) &&& M8 = 0 ∧ wordN (t.take 8) &&& M8 = 0 ∧ wordN (u.take 8) &&& M8 = 0 ∧ wordN (v.take 8) &&& M8 = 0) = ((wordN (s.take 8) ||| wordN (t.take 8) ||| (wordN (u.take 8) ||| wordN (v.take 8))) &&& M8 = 0) by
  rw [or_zero, or_zero, or_zero]; apply propext; simp only [and_assoc]]
 apply propext; omega
theorem VS_L1 (N : Nat) (k0 : List UInt8 → Option Bool) : ∀ (n : Nat) (s : List UInt8), s.length < n → (∀ t, t.length ≤ s.length → k0 t = some (validF t)) → F_unicode_utf8_ValidString_L1 N k0 n s = some (validF s)
 | 0, s, h, _ => by omega
 | n + 1, s, h, hk => by
  simp only [F_unicode_utf8_ValidString_L1, cond_eq, gtr_t, eql_t, List.take_length, Nat.ble_eq, Bool.and_eq_true, Nat.le_refl, and_true]
  by_cases hl : (s.length : Int) > 32
  ·rw [if_pos hl, word_take N s (by omega)]
   simp only [Option.bind_some]
   rw [if_pos (by omega), word_take N _ (by rw [List.length_drop]; omega)]
   simp only [Option.bind_some]
   rw [if_pos (by omega), word_take N _ (by rw [List.length_drop]; omega)]
   simp only [Option.bind_some]
   rw [if_pos (by omega), word_take N _ (by rw [List.length_drop]; omega)]
   simp only [Option.bind_some, mask4]
   split
   ·rename_i hm
    obtain ⟨m1, m2, m3, m4⟩ := hm
    rw [if_pos (by omega), VS_L1 N k0 n (s.drop 32) (by rw [List.length_drop]; omega) (fun t ht => hk t (by rw [List.length_drop] at ht; omega))]
    have e1 := asc8 s (by omega) m1
    have e2 := asc8 (s.drop 8) (by rw [List.length_drop]; omega) m2
    rw [List.drop_drop] at e2
    have e3 := asc8 (s.drop 16) (by rw [List.length_drop]; omega) m3
    rw [List.drop_drop] at e3
    have e4 := asc8 (s.drop 24) (by rw [List.length_drop]; omega) m4
    rw [List.drop_drop] at e4
    rw [e1, e2, e3, e4]
   ·exact hk s (Nat.le_refl _)
  ·rw [if_neg hl]; exact hk s (Nat.le_refl _)
def fstN (n : Nat) : Nat := Go.Pinned.utf8FirstZ.getD n 0
theorem fst_idx (n : Nat) (h : n < 256) : idx gtab0 (n : Int) = some (fstN n : Int) := by
 have hl : Go.Pinned.utf8FirstZ.length = 256 := by rfl
 rw [idx_nat, gtab0, List.getElem?_map, fstN, List.getD_eq_getElem?_getD, List.getElem?_eq_getElem (by omega)]
 rfl
def clsB (n : Nat) : Bool := (fstN n == 241 && (decide (n < 194) || decide (244 < n))) || (fstN n == 2 && decide (194 ≤ n) && decide (n ≤ 223)) || (fstN n == 19 && n == 224) || (fstN n == 3 && decide (225 ≤ n) && decide (n ≤ 239) && n != 237) || (fstN n == 35 && n == 237) ||
  (fstN n == 52 && n == 240) || (fstN n == 4 && decide (241 ≤ n) && decide (n ≤ 243)) || (fstN n == 68 && n == 244)
set_option maxRecDepth 100000 in
theorem cls_all : ((List.range 256).all fun n => decide (n < 128) || clsB n) = true := by decide +kernel
theorem cls (n : Nat) (h : n < 256) (h2 : 128 ≤ n) : (fstN n = 241 ∧ (n < 194 ∨ 244 < n)) ∨ (fstN n = 2 ∧ 194 ≤ n ∧ n ≤ 223) ∨ (fstN n = 19 ∧ n = 224) ∨ (fstN n = 3 ∧ 225 ≤ n ∧ n ≤ 239 ∧ n ≠ 237) ∨ (fstN n = 35 ∧ n = 237) ∨
  (fstN n = 52 ∧ n = 240) ∨ (fstN n = 4 ∧ 241 ≤ n ∧ n ≤ 243) ∨ (fstN n = 68 ∧ n = 244) := by
 have := List.all_eq_true.1 cls_all n (by simpa using h)
 simp only [Bool.or_eq_true, decide_eq_true_eq] at this
 rcases this with h3 | h3
 ·omega
 ·simp only [clsB, Bool.or_eq_true, Bool.and_eq_true, beq_iff_eq, decide_eq_true_eq, bne_iff_ne, ne_eq] at h3
  rcases h3 with ((((((h | h) | h) | h) | h) | h) | h) | h
  ·exact .inl h
  ·exact .inr (.inl ⟨h.1.1, h.1.2, h.2⟩)
  ·exact .inr (.inr (.inl h))
  ·exact .inr (.inr (.inr (.inl ⟨h.1.1.1, h.1.1.2, h.1.2, h.2⟩)))
  ·exact .inr (.inr (.inr (.inr (.inl h))))
  ·exact .inr (.inr (.inr (.inr (.inr (.inl h)))))
  ·exact .inr (.inr (.inr (.inr (.inr (.inr (.inl ⟨h.1.1, h.1.2, h.2⟩))))))
  ·exact .inr (.inr (.inr (.inr (.inr (.inr (.inr h))))))
theorem VS_asc (N n : Nat) (c : UInt8) (r : List UInt8) (hc : c.toNat < 128) (_hn : r.length < n) (hN : r.length < N) (ih : ∀ t, t.length ≤ r.length → F_unicode_utf8_ValidString_L0 N n t = some (validF t)) :
  F_unicode_utf8_ValidString_L0 N (n + 1) (c :: r) = some (validF (c :: r)) := by
 have hstep : validF (c :: r) = validF r := valid_ascii 1 (c :: r) (fun b hb => by simp at hb; subst hb; exact hc)
 rw [hstep]
 simp only [F_unicode_utf8_ValidString_L0, cond_eq, gtr_t, eql_t, lss_t, List.take_length, Nat.ble_eq, Bool.and_eq_true, Nat.le_refl, and_true]
 rw [if_pos (by simp only [List.length_cons]; omega), show idx (c :: r) 0 = some c from rfl]
 simp only [Option.bind_some]
 rw [if_pos (by omega), if_pos (by simp)]
 simp only [List.drop_one, List.tail_cons]
 by_cases h8 : (r.length : Int) > 8
 ·rw [if_pos h8, word_take N r (by omega)]
  simp only [Option.bind_some, mask1]
  split
  ·rename_i hm
   rw [asc8 r (by omega) hm, if_pos (by omega)]
   split
   ·rename_i h16
    rw [word_take N _ (by omega)]
    simp only [Option.bind_some]
    rw [if_pos (by omega), word_take N _ (by simp only [List.length_drop] at h16 ⊢; omega)]
    simp only [Option.bind_some, mask2]
    split
    ·rename_i hm2
     rw [if_pos (by omega), VS_L1 N _ N _ (by simp only [List.length_drop]; omega) (fun t ht => ih t (by simp only [List.length_drop] at ht; omega))]
     rw [asc8 (r.drop 8) (by simp only [List.length_drop] at h16 ⊢; omega) hm2.1, asc8 ((r.drop 8).drop 8) (by simp only [List.length_drop] at h16 ⊢; omega) hm2.2, List.drop_drop (l := r.drop 8)]
    ·exact ih _ (by simp only [List.length_drop]; omega)
   ·exact ih _ (by simp only [List.length_drop]; omega)
  ·exact ih _ (Nat.le_refl _)
 ·rw [if_neg h8]; exact ih _ (Nat.le_refl _)
end
end Go.Av
namespace Go.Av
noncomputable section
open Go.Proofs
set_option maxRecDepth 100000
theorem inB_t {s : List UInt8} {i lo hi : Nat} {b : UInt8} (h : s[i]? = some b) (h1 : lo ≤ b.toNat) (h2 : b.toNat ≤ hi) : inB s i lo hi = true := by simp [inB, h, h1, h2]
theorem inB_f {s : List UInt8} {i lo hi : Nat} {b : UInt8} (h : s[i]? = some b) (h1 : ¬ (lo ≤ b.toNat ∧ b.toNat ≤ hi)) : inB s i lo hi = false := by simp only [inB, h, decide_eq_false h1]
theorem inB_n {s : List UInt8} {i lo hi : Nat} (h : s[i]? = none) : inB s i lo hi = false := by simp [inB, h]
theorem VS_cls2 {X : List UInt8 → Option Bool} (c : UInt8) (r : List UInt8) (lo hi : Int) (lo' hi' : Nat) (e1 : lo = lo') (e2 : hi = hi') (hX : ∀ t, t.length ≤ r.length → X t = some (validF t))
  (hcp : cpN (c :: r) = if inB (c :: r) 1 lo' hi' then 2 else 0) :
  (if ((c :: r).length : Int) < 2 then some false else (idx (c :: r) 1).bind fun b => if (b.toNat : Int) < lo then some false else (idx (c :: r) 1).bind fun b2 => if hi < (b2.toNat : Int) then some false else
   if 2 ≤ (c :: r).length then X ((c :: r).drop 2) else none) = some (validF (c :: r)) := by
 subst e1 e2
 have bad : cpN (c :: r) = 0 → some false = some (validF (c :: r)) := fun h => by rw [valid_bad _ (by simp) h]
 match r, hX, hcp, bad with
 | [], hX, hcp, bad =>
  rw [if_pos (by simp)]
  exact bad (by rw [hcp, inB_n (by simp)]; rfl)
 | d :: t, hX, hcp, bad =>
  rw [if_neg (by simp only [List.length_cons]; omega), show idx (c :: d :: t) 1 = some d from rfl]
  simp only [Option.bind_some]
  by_cases h1 : (d.toNat : Int) < lo'
  ·rw [if_pos h1]; exact bad (by rw [hcp, inB_f (b := d) rfl (by omega)]; rfl)
  rw [if_neg h1]
  by_cases h2 : (hi' : Int) < d.toNat
  ·rw [if_pos h2]; exact bad (by rw [hcp, inB_f (b := d) rfl (by omega)]; rfl)
  rw [if_neg h2, if_pos (by simp)]
  have hc : cpN (c :: d :: t) = 2 := by rw [hcp, inB_t (b := d) rfl (by omega) (by omega)]; rfl
  rw [valid_step _ 1 hc]
  exact hX _ (by simp)
theorem VS_cls3 {X : List UInt8 → Option Bool} (c : UInt8) (r : List UInt8) (lo hi : Int) (lo' hi' : Nat) (e1 : lo = lo') (e2 : hi = hi') (hX : ∀ t, t.length ≤ r.length → X t = some (validF t))
  (hcp : cpN (c :: r) = if inB (c :: r) 1 lo' hi' && inB (c :: r) 2 128 191 then 3 else 0) :
  (if ((c :: r).length : Int) < 3 then some false else (idx (c :: r) 1).bind fun b => if (b.toNat : Int) < lo then some false else (idx (c :: r) 1).bind fun b2 => if hi < (b2.toNat : Int) then some false else
   (idx (c :: r) 2).bind fun b3 => if (b3.toNat : Int) < 128 then some false else (idx (c :: r) 2).bind fun b4 => if 191 < (b4.toNat : Int) then some false else
   if 3 ≤ (c :: r).length then X ((c :: r).drop 3) else none) = some (validF (c :: r)) := by
 subst e1 e2
 have bad : cpN (c :: r) = 0 → some false = some (validF (c :: r)) := fun h => by rw [valid_bad _ (by simp) h]
 match r, hX, hcp, bad with
 | [], hX, hcp, bad =>
  rw [if_pos (by simp)]
  exact bad (by rw [hcp, inB_n (by simp)]; rfl)
 | [d], hX, hcp, bad =>
  rw [if_pos (by simp)]
  exact bad (by rw [hcp, inB_n (i := 2) (by simp)]; simp)
 | d :: e :: t, hX, hcp, bad =>
  rw [if_neg (by simp only [List.length_cons]; omega), show idx (c :: d :: e :: t) 1 = some d from rfl, show idx (c :: d :: e :: t) 2 = some e from rfl]
  simp only [Option.bind_some]
  by_cases h1 : (d.toNat : Int) < lo'
  ·rw [if_pos h1]; exact bad (by rw [hcp, inB_f (b := d) (i := 1) rfl (by omega)]; rfl)
  rw [if_neg h1]
  by_cases h2 : (hi' : Int) < d.toNat
  ·rw [if_pos h2]; exact bad (by rw [hcp, inB_f (b := d) (i := 1) rfl (by omega)]; rfl)
  rw [if_neg h2]
  by_cases h3 : (e.toNat : Int) < 128
  ·rw [if_pos h3]; exact bad (by rw [hcp, inB_f (b := e) (i := 2) rfl (by omega)]; simp)
  rw [if_neg h3]
  by_cases h4 : (191 : Int) < e.toNat
  ·rw [if_pos h4]; exact bad (by rw [hcp, inB_f (b := e) (i := 2) rfl (by omega)]; simp)
  rw [if_neg h4, if_pos (by simp)]
  have hc : cpN (c :: d :: e :: t) = 3 := by rw [hcp, inB_t (b := d) (i := 1) rfl (by omega) (by omega), inB_t (b := e) (i := 2) rfl (by omega) (by omega)]; rfl
  rw [valid_step _ 2 hc]
  exact hX _ (by simp; omega)
theorem VS_cls4 {X : List UInt8 → Option Bool} (c : UInt8) (r : List UInt8) (lo hi : Int) (lo' hi' : Nat) (e1 : lo = lo') (e2 : hi = hi') (hX : ∀ t, t.length ≤ r.length → X t = some (validF t))
  (hcp : cpN (c :: r) = if inB (c :: r) 1 lo' hi' && inB (c :: r) 2 128 191 && inB (c :: r) 3 128 191 then 4 else 0) :
  (if ((c :: r).length : Int) < 4 then some false else (idx (c :: r) 1).bind fun b => if (b.toNat : Int) < lo then some false else (idx (c :: r) 1).bind fun b2 => if hi < (b2.toNat : Int) then some false else
   (idx (c :: r) 2).bind fun b3 => if (b3.toNat : Int) < 128 then some false else (idx (c :: r) 2).bind fun b4 => if 191 < (b4.toNat : Int) then some false else
   (idx (c :: r) 3).bind fun b5 => if (b5.toNat : Int) < 128 then some false else (idx (c :: r) 3).bind fun b6 => if 191 < (b6.toNat : Int) then some false else
   if 4 ≤ (c :: r).length then X ((c :: r).drop 4) else none) = some (validF (c :: r)) := by
 subst e1 e2
 have bad : cpN (c :: r) = 0 → some false = some (validF (c :: r)) := fun h => by rw [valid_bad _ (by simp) h]
 match r, hX, hcp, bad with
 | [], hX, hcp, bad =>
  rw [if_pos (by simp)]
  exact bad (by rw [hcp, inB_n (by simp)]; rfl)
 | [d], hX, hcp, bad =>
  rw [if_pos (by simp)]
  exact bad (by rw [hcp, inB_n (i := 2) (by simp)]; simp)
 | [d, e], hX, hcp, bad =>
  rw [if_pos (by simp)]
  exact bad (by rw [hcp, inB_n (i := 3) (by simp)]; simp)
 | d :: e :: f :: t, hX, hcp, bad =>
  rw [if_neg (by simp only [List.length_cons]; omega), show idx (c :: d :: e :: f :: t) 1 = some d from rfl, show idx (c :: d :: e :: f :: t) 2 = some e from rfl, show idx (c :: d :: e :: f :: t) 3 = some f from rfl]
  simp only [Option.bind_some]
  by_cases h1 : (d.toNat : Int) < lo'
  ·rw [if_pos h1]; exact bad (by rw [hcp, inB_f (b := d) (i := 1) rfl (by omega)]; rfl)
  rw [if_neg h1]
  by_cases h2 : (hi' : Int) < d.toNat
  ·rw [if_pos h2]; exact bad (by rw [hcp, inB_f (b := d) (i := 1) rfl (by omega)]; rfl)
  rw [if_neg h2]
  by_cases h3 : (e.toNat : Int) < 128
  ·rw [if_pos h3]; exact bad (by rw [hcp, inB_f (b := e) (i := 2) rfl (by omega)]; simp)
  rw [if_neg h3]
  by_cases h4 : (191 : Int) < e.toNat
  ·rw [if_pos h4]; exact bad (by rw [hcp, inB_f (b := e) (i := 2) rfl (by omega)]; simp)
  rw [if_neg h4]
  by_cases h5 : (f.toNat : Int) < 128
  ·rw [if_pos h5]; exact bad (by rw [hcp, inB_f (b := f) (i := 3) rfl (by omega)]; simp)
  rw [if_neg h5]
  by_cases h6 : (191 : Int) < f.toNat
  ·rw [if_pos h6]; exact bad (by rw [hcp, inB_f (b := f) (i := 3) rfl (by omega)]; simp)
  rw [if_neg h6, if_pos (by simp)]
  have hc : cpN (c :: d :: e :: f :: t) = 4 := by rw [hcp, inB_t (b := d) (i := 1) rfl (by omega) (by omega), inB_t (b := e) (i := 2) rfl (by omega) (by omega), inB_t (b := f) (i := 3) rfl (by omega) (by omega)]; rfl
  rw [valid_step _ 3 hc]
  exact hX _ (by simp; omega)
theorem VS_L0 : ∀ (N n : Nat) (s : List UInt8), s.length < n → s.length < N → F_unicode_utf8_ValidString_L0 N n s = some (validF s)
 | N, 0, s, h, _ => by omega
 | N, n + 1, [], h1, h2 => by simp [F_unicode_utf8_ValidString_L0, cond_eq, valid_nil]
 | N, n + 1, c :: r, h1, h2 => by
  have h1 : r.length < n := by simp at h1; omega
  have h2 : r.length < N := by simp at h2; omega
  have ih : ∀ t : List UInt8, t.length ≤ r.length → F_unicode_utf8_ValidString_L0 N n t = some (validF t) := fun t ht => VS_L0 N n t (by omega) (by omega)
  by_cases hc : c.toNat < 128
  ·exact VS_asc N n c r hc h1 h2 ih
  have hlt := c.toNat_lt
  simp only [F_unicode_utf8_ValidString_L0, cond_eq, gtr_t, eql_t, lss_t, List.take_length, Nat.ble_eq, Bool.and_eq_true, Nat.le_refl, and_true]
  rw [if_pos (by simp only [List.length_cons]; omega), show idx (c :: r) 0 = some c from rfl]
  simp only [Option.bind_some]
  rw [if_neg (by omega), fst_idx _ hlt]
  simp only [Option.bind_some]
  rcases cls c.toNat hlt (by omega) with ⟨e, h⟩ | ⟨e, h⟩ | ⟨e, h⟩ | ⟨e, h⟩ | ⟨e, h⟩ | ⟨e, h⟩ | ⟨e, h⟩ | ⟨e, h⟩
  ·rw [e, show (idx gtab1 (shrI .u8 ((241 : Nat) : Int) 4)) = some (0, 0) from by decide]
   simp only [Option.bind_some]
   rw [if_neg (by decide), if_neg (by decide), if_neg (by decide), valid_bad _ (by simp) (by simp only [cpN]; rw [if_neg hc, if_neg (by omega), if_neg (by omega), if_neg (by omega), if_neg (by omega), if_neg (by omega), if_neg (by omega), if_neg (by omega)])]
  ·rw [e, show (idx gtab1 (shrI .u8 ((2 : Nat) : Int) 4)) = some (128, 191) from by decide]
   simp only [Option.bind_some]
   rw [if_pos (by decide)]
   exact VS_cls2 c r 128 191 128 191 rfl rfl ih (by simp only [cpN]; rw [if_neg hc, if_pos h])
  ·rw [e, show (idx gtab1 (shrI .u8 ((19 : Nat) : Int) 4)) = some (160, 191) from by decide]
   simp only [Option.bind_some]
   rw [if_neg (by decide), if_pos (by decide)]
   exact VS_cls3 c r 160 191 160 191 rfl rfl ih (by simp only [cpN]; rw [if_neg hc, if_neg (by omega), if_pos h])
  ·rw [e, show (idx gtab1 (shrI .u8 ((3 : Nat) : Int) 4)) = some (128, 191) from by decide]
   simp only [Option.bind_some]
   rw [if_neg (by decide), if_pos (by decide)]
   exact VS_cls3 c r 128 191 128 191 rfl rfl ih (by simp only [cpN]; rw [if_neg hc, if_neg (by omega), if_neg (by omega), if_neg (by omega), if_pos (by omega)])
  ·rw [e, show (idx gtab1 (shrI .u8 ((35 : Nat) : Int) 4)) = some (128, 159) from by decide]
   simp only [Option.bind_some]
   rw [if_neg (by decide), if_pos (by decide)]
   exact VS_cls3 c r 128 159 128 159 rfl rfl ih (by simp only [cpN]; rw [if_neg hc, if_neg (by omega), if_neg (by omega), if_pos h])
  ·rw [e, show (idx gtab1 (shrI .u8 ((52 : Nat) : Int) 4)) = some (144, 191) from by decide]
   simp only [Option.bind_some]
   rw [if_neg (by decide), if_neg (by decide), if_pos (by decide)]
   exact VS_cls4 c r 144 191 144 191 rfl rfl ih (by simp only [cpN]; rw [if_neg hc, if_neg (by omega), if_neg (by omega), if_neg (by omega), if_neg (by omega), if_pos h])
  ·rw [e, show (idx gtab1 (shrI .u8 ((4 : Nat) : Int) 4)) = some (128, 191) from by decide]
   simp only [Option.bind_some]
   rw [if_neg (by decide), if_neg (by decide), if_pos (by decide)]
   exact VS_cls4 c r 128 191 128 191 rfl rfl ih (by simp only [cpN]; rw [if_neg hc, if_neg (by omega), if_neg (by omega), if_neg (by omega), if_neg (by omega), if_neg (by omega), if_pos h])
  ·rw [e, show (idx gtab1 (shrI .u8 ((68 : Nat) : Int) 4)) = some (128, 143) from by decide]
   simp only [Option.bind_some]
   rw [if_neg (by decide), if_neg (by decide), if_pos (by decide)]
   exact VS_cls4 c r 128 143 128 143 rfl rfl ih (by simp only [cpN]; rw [if_neg hc, if_neg (by omega), if_neg (by omega), if_neg (by omega), if_neg (by omega), if_neg (by omega), if_neg (by omega), if_pos h])
theorem ValidString_eq (N : Nat) (s : List UInt8) (h : s.length < N) : F_unicode_utf8_ValidString N s = some (validF s) := VS_L0 N N s h h
end
end Go.Av
namespace Go.Av
noncomputable section
open Go.Proofs
set_option maxRecDepth 100000
theorem asciiF_drop (s : List UInt8) (i : Nat) (hi : i < s.length) (h : s[i].toNat < 128) : asciiF (s.drop i) = asciiF (s.drop (i + 1)) := by
 rw [List.drop_eq_getElem_cons hi]
 simp only [asciiF, List.all_cons, decide_eq_true h, Bool.true_and]
theorem text_L0 (N : Nat) (v : SValue) (hb : v.Text.length < 4611686018427387904) : ∀ (n i : Nat), v.Text.length - i < n → i ≤ v.Text.length →
  Faptext_L0 N v n (i : Int) = some (if asciiF (v.Text.drop i) then 0 else 6)
 | 0, i, h, _ => by omega
 | n + 1, i, h, hi => by
  simp only [Faptext_L0, cond_eq, lss_t, geq_t]
  by_cases h1 : i < v.Text.length
  ·rw [if_pos (by omega), idx_nat, List.getElem?_eq_getElem h1]
   simp only [Option.bind_some]
   by_cases h2 : v.Text[i].toNat < 128
   ·rw [if_neg (by omega), wrap64 _ (by omega), asciiF_drop _ _ h1 h2]
    exact_mod_cast text_L0 N v hb n (i + 1) (by omega) (by omega)
   ·rw [if_pos (by omega)]
    have : asciiF (v.Text.drop i) = false := by
     rw [List.drop_eq_getElem_cons h1]
     simp only [asciiF, List.all_cons, decide_eq_false h2, Bool.false_and]
    simp [this]
  ·rw [if_neg (by omega), List.drop_of_length_le (by omega)]
   rfl
theorem text_eq (N : Nat) (v : SValue) (h : v.Text.length < N) (hb : v.Text.length < 4611686018427387904) : Faptext N v = some (textE v.Kind v.Text) := by
 simp only [Faptext, cond_eq, eql_t, textE]
 split
 ·rw [ValidString_eq N _ h]
  simp only [Option.bind_some]
  cases validF v.Text <;> rfl
 ·split
  ·have := text_L0 N v hb N 0 (by omega) (by omega)
   simpa using this
  ·rfl
theorem rows_ne (v : SValue) : (((SValue.rows v.Items).length : Int) ≠ 0) = (v.Items ≠ []) := by
 rw [rowsV_len]
 apply propext
 cases v.Items <;> simp; omega
theorem bitsS_rng (k : Int) : 0 ≤ (bitsS k).1 ∧ (bitsS k).1 ≤ 64 ∧ ((bitsS k).2 = true → 1 ≤ (bitsS k).1) := by
 unfold bitsS
 repeat' split
 all_goals simp
def okU (n : Int) : Prop := 0 ≤ n ∧ n < 18446744073709551616
theorem Check_eq (N : Nat) (v : SValue) (hn : okU v.N') (h : v.Text.length < N) (hb : v.Text.length < 4611686018427387904) : FapCheck N v = some (checkS v) := by
 obtain ⟨b1, b2, b3⟩ := bitsS_rng v.Kind
 simp only [FapCheck, cond_eq, eql_t, lss_t, gtr_t, neq_t, cmpS_neq, bits_eq, Option.bind_some, fitsBits_eq N _ _ _ hn.1 hn.2 b1 b2 b3, codePoint_eq N _ hn.1, textual_eq, text_eq N v h hb, rows_ne]
 unfold checkS
 by_cases h1 : v.Kind < 1
 ·rw [if_pos h1, if_pos (.inl h1)]
 rw [if_neg h1]
 by_cases h2 : v.Kind > 21
 ·rw [if_pos h2, if_pos (.inr h2)]
 rw [if_neg h2, if_neg (show ¬ (v.Kind < 1 ∨ 21 < v.Kind) by omega)]
 unfold okNum
 generalize fitsS v.N' (bitsS v.Kind).1 (bitsS v.Kind).2 = fb
 cases fb
 ·simp
 simp only [Bool.not_true, Bool.false_eq_true, if_false, Bool.true_and]
 by_cases h16 : v.Kind = 16
 ·rw [if_pos h16]
  have e1 : (v.Kind != 16) = false := by simp [h16]
  have e2 : textS v.Kind = false := by rw [h16]; rfl
  rw [e1, e2]
  simp only [Bool.false_or, Bool.not_false, if_true]
  cases charS v.N' with
  | false => simp
  | true =>
   simp only [Bool.not_true, Bool.false_eq_true, if_false]
   by_cases hi : v.Items = []
   ·simp only [hi, ne_eq, not_true_eq_false, if_false]
    simp only [Bool.true_eq_false, or_self, if_false]
    by_cases ht : v.Text = [] <;> simp [ht]
   ·simp [hi]
 ·rw [if_neg h16]
  have e1 : (v.Kind != 16) = true := by simp [h16]
  rw [e1]
  simp only [Bool.true_or, Bool.true_eq_false, false_or]
  have e3 : ((v.Text.length : Int) ≠ 16) = (v.Text.length ≠ 16) := by apply propext; omega
  have e4 : ((v.Text.length : Int) > 1048576) = (1048576 < v.Text.length) := by apply propext; omega
  simp only [e3, e4]
  by_cases hi : v.Items = []
  ·simp only [hi, ne_eq, not_true_eq_false, if_false]
   cases textS v.Kind with
   | false => by_cases ht : v.Text = [] <;> simp [ht]
   | true =>
    simp only [Bool.not_true, Bool.false_eq_true, if_false, Bool.true_eq_false]
    by_cases h15 : v.Kind = 15
    ·simp only [h15, if_true, true_or, true_and]
     by_cases hl : v.Text.length = 16 <;> simp [hl]
    ·by_cases h18 : v.Kind = 18
     ·simp only [h18, if_true, or_true, true_and]
      by_cases hl : v.Text.length = 16 <;> simp [hl]
     ·simp only [h15, h18, if_false, or_self, false_and]
      split <;> rfl
  ·simp [hi]
end
end Go.Av
namespace Go.Av
noncomputable section
open Go.Proofs
set_option maxRecDepth 100000
/-! bytes of a number -/
theorem wrapU (x : Int) : IntKind.u64.wrap x = x % 18446744073709551616 := by simp [IntKind.wrap, IntKind.bits, IntKind.signed]
theorem oGet_step (a b : Nat) (ha : a < 72057594037927936) (hb : b < 256) : orI .u64 (shlI .u64 (a : Int) 8) (IntKind.u64.wrap (b : Int)) = ((a * 256 + b : Nat) : Int) := by
 have e1 : shlI .u64 (a : Int) 8 = ((a * 256 : Nat) : Int) := by
  simp only [shlI]
  have : min (Int.toNat 8) IntKind.u64.bits = 8 := rfl
  rw [this, show ((a : Int) * 2 ^ 8) = ((a * 256 : Nat) : Int) by push_cast; rfl, u64_wrap _ (by omega)]
 rw [e1, u64_wrap b (by omega), (orI_nat _ _ (by omega) (by omega)).1]
 have := Nat.shiftLeft_add_eq_or_of_lt (show b < 2 ^ 8 by omega) a
 rw [Nat.shiftLeft_eq] at this
 rw [← this]
theorem numB_take (s : List UInt8) (i : Nat) (hi : i < s.length) : numB (s.take (i + 1)) = numB (s.take i) * 256 + s[i].toNat := by
 rw [List.take_succ_eq_append_getElem hi, numB_app1]
theorem oGet_L1 (N : Nat) (s : List UInt8) (hl : s.length ≤ 8) : ∀ (k i : Nat), i ≤ s.length → s.length - i < k → FocGet_L1 N s k (numB (s.take i) : Nat) (i : Int) = some ((numB s : Nat) : Int)
 | 0, i, h, h2 => by omega
 | k + 1, i, h, h2 => by
  simp only [FocGet_L1, cond_eq, lss_t]
  by_cases hi : i < s.length
  ·rw [if_pos (by omega), idx_nat, List.getElem?_eq_getElem hi]
   simp only [Option.bind_some]
   have h3 := numB_lt (s.take i)
   have h4 : 256 ^ (s.take i).length ≤ 256 ^ 7 := Nat.pow_le_pow_right (by omega) (by rw [List.length_take]; omega)
   have h5 : (256 : Nat) ^ 7 = 72057594037927936 := rfl
   rw [oGet_step _ _ (by omega) s[i].toNat_lt, ← numB_take s i hi, wrap64 _ (by omega)]
   exact_mod_cast oGet_L1 N s hl k (i + 1) (by omega) (by omega)
  ·rw [if_neg (by omega), List.take_of_length_le (by omega)]
theorem oGet_eq (N : Nat) (s : List UInt8) (hl : s.length ≤ 8) (hN : 10 < N) : FocGet N s = some ((numB s : Nat) : Int) := by
 simp only [FocGet, cond_eq, gtr_t]
 rw [if_neg (by omega)]
 exact oGet_L1 N s hl N 0 (by omega) (by omega)
/-! the cursor -/
abbrev sane (s : List UInt8) : Prop := s.length < 4611686018427387904
theorem Take_eq (N : Nat) (s : List UInt8) (i n : Nat) (hs : sane s) (hi : i ≤ s.length) (hn : n < 4611686018427387904) : FocCursor_Take N ⟨s, i, 0⟩ (n : Int) =
  some (if n ≤ s.length - i then ((s.drop i).take n, ⟨s, ((i + n : Nat) : Int), 0⟩) else ([], ⟨s, i, 3⟩)) := by
 unfold sane at hs
 simp only [FocCursor_Take, FocCursor_ready, FocCursor_has, cond_eq, Option.bind_some, geq_t, show cmpI .eql (0 : Int) 0 = true from rfl, Bool.not_true, Bool.false_eq_true, if_false]
 rw [if_pos (by omega), wrap64 _ (by omega)]
 simp only [Option.bind_some, Bool.not_eq_true']
 by_cases h : n ≤ s.length - i
 ·have e1 : cmpI .leq (n : Int) ((s.length : Int) - (i : Int)) = true := by rw [leq_t]; omega
  rw [e1, if_pos h, wrap64 _ (by omega)]
  simp only [Bool.true_eq_false, if_false]
  have e2 : ((i : Int) + (n : Int)) = ((i + n : Nat) : Int) := by push_cast; rfl
  rw [e2, if_pos (by simp), if_pos (by simp; omega), if_pos (by simp [Nat.ble_eq]; omega)]
  have e3 : ((i + n : Nat) : Int).toNat = i + n := rfl
  have e4 : (i : Int).toNat = i := rfl
  rw [e3, e4]
  rw [show (s.take (i + n)).drop i = (s.drop i).take n by rw [List.drop_take]; congr 1; omega]
 ·have e1 : cmpI .leq (n : Int) ((s.length : Int) - (i : Int)) = false := by
   have : ¬ (cmpI .leq (n : Int) ((s.length : Int) - (i : Int)) = true) := by rw [leq_t]; omega
   exact Bool.eq_false_iff.2 this
  rw [e1, if_neg h]
  simp
theorem Left_eq (N : Nat) (s : List UInt8) (i : Nat) (e : Int) (hi : i ≤ s.length) : FocCursor_Left N ⟨s, i, e⟩ = some (((s.length - i : Nat) : Int), ⟨s, i, e⟩) := by
 simp only [FocCursor_Left, FocCursor_Rest, cond_eq]
 rw [if_pos (by simp), if_pos (by simp [Nat.ble_eq]; exact hi)]
 simp
theorem Number_eq (N : Nat) (s : List UInt8) (w : Nat) (hs : sane s) (hw : w ≤ 8) (hN : 10 < N) : FocCursor_Number N ⟨s, 0, 0⟩ (w : Int) =
  some (if w ≤ s.length then (((numB (s.take w) : Nat) : Int), ⟨s, (w : Int), 0⟩) else (0, ⟨s, 0, 3⟩)) := by
 simp only [FocCursor_Number]
 have := Take_eq N s 0 w hs (by omega) (by omega)
 rw [show ((0 : Nat) : Int) = 0 from rfl] at this
 rw [this]
 simp only [Option.bind_some, Nat.sub_zero, List.drop_zero, Nat.zero_add]
 by_cases h : w ≤ s.length
 ·rw [if_pos h, if_pos h]
  simp only
  rw [oGet_eq N _ (by rw [List.length_take]; omega) hN]
  rfl
 ·rw [if_neg h, if_neg h]
  dsimp only
  rw [oGet_eq N _ (by simp) hN]
  rfl
end
end Go.Av
namespace Go.Av
noncomputable section
open Go.Proofs
set_option maxRecDepth 100000
/-! the table -/
def wellC (code : Int) (t : Int × Int × Int × Bool × Bool) : Bool :=
 decide (t.1 = code) && decide (1 ≤ t.2.1 ∧ t.2.1 ≤ 25) && (t.2.2.2.2 == decide (22 ≤ t.2.1)) &&
 (t.2.2.2.2 || (if t.2.2.2.1 then decide ((t.2.2.1 = 1 ∨ t.2.2.1 = 4) ∧ 19 ≤ t.2.1 ∧ t.2.1 ≤ 21 ∧ t.1 ≠ 65)
  else if t.2.2.1 = 16 then decide ((t.2.1 = 15 ∨ t.2.1 = 18) ∧ t.1 ≠ 65)
  else decide (textS t.2.1 = false) && decide (t.2.2.1 = 0 ∨ t.2.2.1 = 1 ∨ t.2.2.1 = 2 ∨ t.2.2.1 = 4 ∨ t.2.2.1 = 8) &&
   decide (t.1 = 65 → t.2.2.1 = 0 ∧ t.2.1 = 2) && decide (t.2.2.1 = 1 → (bitsS t.2.1).1 ≤ 8 → (bitsS t.2.1).2 = false ∨ (bitsS t.2.1).1 = 8) && decide (2 ≤ t.2.2.1 → (bitsS t.2.1).1 = 8 * t.2.2.1)))
theorem wellC_all : ((List.range 40).all fun k => wellC (codeAt k) (tabAt k)) = true := by decide +kernel
structure Well (code : Int) (c : SCtor) : Prop where
 code : c.Code = code
 kind : 1 ≤ c.Kind ∧ c.Kind ≤ 25
 items : c.Items = decide (22 ≤ c.Kind)
 sized : c.Items = false → c.Sized = true → (c.Width = 1 ∨ c.Width = 4) ∧ 19 ≤ c.Kind ∧ c.Kind ≤ 21 ∧ c.Code ≠ 65
 wide : c.Items = false → c.Sized = false → c.Width = 16 → (c.Kind = 15 ∨ c.Kind = 18) ∧ c.Code ≠ 65
 num : c.Items = false → c.Sized = false → c.Width ≠ 16 → textS c.Kind = false ∧ (c.Width = 0 ∨ c.Width = 1 ∨ c.Width = 2 ∨ c.Width = 4 ∨ c.Width = 8) ∧ (c.Code = 65 → c.Width = 0 ∧ c.Kind = 2) ∧ (2 ≤ c.Width → (bitsS c.Kind).1 = 8 * c.Width)
theorem well (code : Int) (h : ofB code = true) : Well code (ofS code) := by
 have h1 : bsI code < 40 ∧ codeAt (bsI code) = code := by simpa [ofB] using h
 have hw := List.all_eq_true.1 wellC_all (bsI code) (by simpa using h1.1)
 rw [h1.2] at hw
 have e : ofT code = tabAt (bsI code) := by unfold ofT; rw [if_pos h]
 rw [← e] at hw
 have es : ofS code = ⟨(ofT code).1, (ofT code).2.1, (ofT code).2.2.1, (ofT code).2.2.2.1, (ofT code).2.2.2.2⟩ := rfl
 rw [es]
 generalize ofT code = t at hw
 obtain ⟨c, k, w, s, i⟩ := t
 simp only [wellC, Bool.and_eq_true, decide_eq_true_eq, beq_iff_eq] at hw
 obtain ⟨⟨⟨h1, h2⟩, h3⟩, h4⟩ := hw
 refine ⟨h1, h2, h3, ?_, ?_, ?_⟩ <;> intro hi hs <;> simp only at hi hs
 ·rw [hi, hs] at h4
  simpa using h4
 ·intro hw16
  simp only at hw16
  rw [hi, hs, if_pos hw16] at h4
  simpa using h4
 ·intro hw16
  simp only at hw16
  rw [hi, hs, if_neg hw16] at h4
  simp only [Bool.false_or, Bool.and_eq_true, decide_eq_true_eq, Bool.false_eq_true, if_false] at h4
  exact ⟨h4.1.1.1.1, h4.1.1.1.2, h4.1.1.2, h4.2⟩
theorem ofS_none (code : Int) (h : ofB code = false) : ofS code = ⟨0, 0, 0, false, false⟩ := by
 unfold ofS ofT
 rw [h]; rfl
/-! what a value that may be is like -/
theorem check_ok {v : SValue} (h : checkS v = 0) : 1 ≤ v.Kind ∧ v.Kind ≤ 21 ∧ okNum v.Kind v.N' = true ∧ v.Items = [] ∧ (textS v.Kind = false → v.Text = []) ∧ (v.Kind = 15 ∨ v.Kind = 18 → v.Text.length = 16) ∧ v.Text.length ≤ 1048576 := by
 unfold checkS at h
 split at h
 ·omega
 split at h
 ·omega
 rename_i h1 h2
 have hi : v.Items = [] := by
  apply Classical.byContradiction
  intro hn; exact h2 (.inr hn)
 have ho : okNum v.Kind v.N' = true := by
  cases ho : okNum v.Kind v.N' with
  | true => rfl
  | false => exact absurd (.inl ho) h2
 split at h
 ·split at h
  ·omega
  ·rename_i h3 h4
   have ht : v.Text = [] := by
    apply Classical.byContradiction
    intro hn; exact h4 hn
   refine ⟨by omega, by omega, ho, hi, fun _ => ht, fun hk => ?_, by rw [ht]; simp⟩
   rcases hk with hk | hk <;> rw [hk] at h3 <;> cases h3
 ·split at h
  ·omega
  split at h
  ·omega
  rename_i h3 h4 h5
  exact ⟨by omega, by omega, ho, hi, fun ht => absurd ht h3, fun hk => by
   apply Classical.byContradiction
   intro hn; exact h4 ⟨hk, hn⟩, by omega⟩
theorem textS_num {k n : Int} (h : textS k = true) (hn : okNum k n = true) (h0 : 0 ≤ n) : n = 0 := by
 unfold textS at h
 simp only [decide_eq_true_eq] at h
 have hb : bitsS k = (0, false) := by
  rcases h with rfl | rfl | rfl | rfl | rfl <;> rfl
 simp only [okNum, Bool.and_eq_true, hb, fitsS, Bool.false_eq_true, if_false, decide_eq_true_eq] at hn
 have := hn.1
 simp at this
 omega
/-! numbers, there and back -/
theorem fits_back {c : SCtor} {n : Int} {w : Nat} (hw : c.Width = w) (h148 : w = 1 ∨ w = 2 ∨ w = 4 ∨ w = 8) (hn : okU n) (hf : fitsS n (8 * w) (bitsS c.Kind).2 = true) : widenS c ((n.toNat % 256 ^ w : Nat) : Int) = n := by
 obtain ⟨h0, h1⟩ := hn
 unfold widenS
 unfold fitsS s64 at hf
 cases hs : (bitsS c.Kind).2
 ·rw [hs] at hf
  simp only [Bool.false_eq_true, if_false, decide_eq_true_eq] at hf
  simp only [Bool.false_eq_true, false_and, if_false]
  rcases h148 with rfl | rfl | rfl | rfl <;> simp at hf ⊢ <;> omega
 ·rw [hs] at hf
  simp only [if_true, decide_eq_true_eq] at hf
  simp only [true_and, hw]
  rcases h148 with rfl | rfl | rfl | rfl <;> simp at hf ⊢ <;> split at hf <;> (try split) <;> omega
theorem widen_mod {c : SCtor} {n w : Nat} (hw : c.Width = w) (h148 : w = 1 ∨ w = 2 ∨ w = 4 ∨ w = 8) (hn : n < 256 ^ w) : okU (widenS c n) ∧ (widenS c n).toNat % 256 ^ w = n ∧ fitsS (widenS c n) (8 * w) (bitsS c.Kind).2 = true := by
 unfold widenS okU fitsS s64
 cases hs : (bitsS c.Kind).2
 ·simp only [Bool.false_eq_true, false_and, if_false]
  rcases h148 with rfl | rfl | rfl | rfl <;> simp at hn ⊢ <;> omega
 ·simp only [true_and, hw, if_true]
  rcases h148 with rfl | rfl | rfl | rfl <;> simp at hn ⊢ <;> split <;> refine ⟨by omega, by omega, ?_⟩ <;> (try split) <;> omega
theorem widen_eq (N : Nat) (c : SCtor) (n w : Nat) (hw : c.Width = w) (hww : w = 0 ∨ w = 1 ∨ w = 2 ∨ w = 4 ∨ w = 8) (hn : n < 256 ^ w) : Fapwiden N c (n : Int) = some (widenS c n) := by
 simp only [Fapwiden, bits_eq, Option.bind_some, cond_eq, gtr_t, widenS]
 cases hs : (bitsS c.Kind).2
 ·simp
 ·simp only [if_true, true_and, hw]
  rcases hww with rfl | hww
  ·simp
  rcases hww with rfl | rfl | rfl | rfl
  ·rw [if_pos (by omega), wrap64 (8 * ((1 : Nat) : Int)) (by omega), wrap64 _ (by omega), if_pos (by decide)]
   simp only [Nat.pow_one] at hn
   simp only [shrI, shlI, wrapU]
   simp only [Option.some.injEq]
   rw [show min (Int.toNat (64 - 8 * ((1 : Nat) : Int))) IntKind.u64.bits = 56 from rfl, show min (Int.toNat (64 - 8 * ((1 : Nat) : Int))) IntKind.i64.bits = 56 from rfl]
   simp only [IntKind.wrap, IntKind.bits, IntKind.signed]
   rw [Int.fdiv_eq_ediv_of_nonneg _ (by decide)]
   simp
   split <;> split <;> omega
  ·rw [if_pos (by omega), wrap64 (8 * ((2 : Nat) : Int)) (by omega), wrap64 _ (by omega), if_pos (by decide)]
   simp at hn
   simp only [shrI, shlI, wrapU]
   simp only [Option.some.injEq]
   rw [show min (Int.toNat (64 - 8 * ((2 : Nat) : Int))) IntKind.u64.bits = 48 from rfl, show min (Int.toNat (64 - 8 * ((2 : Nat) : Int))) IntKind.i64.bits = 48 from rfl]
   simp only [IntKind.wrap, IntKind.bits, IntKind.signed]
   rw [Int.fdiv_eq_ediv_of_nonneg _ (by decide)]
   simp
   split <;> split <;> omega
  ·rw [if_pos (by omega), wrap64 (8 * ((4 : Nat) : Int)) (by omega), wrap64 _ (by omega), if_pos (by decide)]
   simp at hn
   simp only [shrI, shlI, wrapU]
   simp only [Option.some.injEq]
   rw [show min (Int.toNat (64 - 8 * ((4 : Nat) : Int))) IntKind.u64.bits = 32 from rfl, show min (Int.toNat (64 - 8 * ((4 : Nat) : Int))) IntKind.i64.bits = 32 from rfl]
   simp only [IntKind.wrap, IntKind.bits, IntKind.signed]
   rw [Int.fdiv_eq_ediv_of_nonneg _ (by decide)]
   simp
   split <;> split <;> omega
  ·rw [if_pos (by omega), wrap64 (8 * ((8 : Nat) : Int)) (by omega), wrap64 _ (by omega), if_pos (by decide)]
   simp at hn
   simp only [shrI, shlI, wrapU]
   simp only [Option.some.injEq]
   rw [show min (Int.toNat (64 - 8 * ((8 : Nat) : Int))) IntKind.u64.bits = 0 from rfl, show min (Int.toNat (64 - 8 * ((8 : Nat) : Int))) IntKind.i64.bits = 0 from rfl]
   simp only [IntKind.wrap, IntKind.bits, IntKind.signed]
   rw [Int.fdiv_eq_ediv_of_nonneg _ (by decide)]
   simp
   split <;> omega
end
end Go.Av
namespace Go.Av
noncomputable section
open Go.Proofs
set_option maxRecDepth 100000
theorem fitsC_t {code : Int} {v : SValue} (h : fitsC code v = true) : ofB code = true ∧ (ofS code).Kind = v.Kind ∧ checkS v = 0 ∧ saysS (ofS code) v = true := by
 simp only [fitsC, Bool.and_eq_true, decide_eq_true_eq] at h
 exact ⟨h.1.1.1, h.1.1.2, h.1.2, h.2⟩
theorem okU0 : okU 0 := ⟨by decide, by decide⟩
theorem okU1 : okU 1 := ⟨by decide, by decide⟩
inductive Shape (c : SCtor) : Prop
 | sized (w : Nat) (hs : c.Sized = true) (hw : c.Width = w) (h : w = 1 ∨ w = 4) (hk : 19 ≤ c.Kind ∧ c.Kind ≤ 21) (hc : c.Code ≠ 65)
 | wide (hs : c.Sized = false) (hw : c.Width = 16) (hk : c.Kind = 15 ∨ c.Kind = 18) (hc : c.Code ≠ 65)
 | num (w : Nat) (hs : c.Sized = false) (hw : c.Width = w) (h : w = 0 ∨ w = 1 ∨ w = 2 ∨ w = 4 ∨ w = 8) (ht : textS c.Kind = false) (hc : c.Code = 65 → w = 0 ∧ c.Kind = 2) (hb : 2 ≤ w → (bitsS c.Kind).1 = 8 * w)
theorem Well.shape {code : Int} {c : SCtor} (h : Well code c) (hi : c.Items = false) : Shape c := by
 cases hs : c.Sized with
 | true =>
  obtain ⟨h1, h2, h3, h4⟩ := h.sized hi hs
  rcases h1 with h1 | h1
  ·exact .sized 1 hs h1 (.inl rfl) ⟨h2, h3⟩ h4
  ·exact .sized 4 hs h1 (.inr rfl) ⟨h2, h3⟩ h4
 | false =>
  by_cases h16 : c.Width = 16
  ·obtain ⟨h1, h2⟩ := h.wide hi hs h16
   exact .wide hs h16 h1 h2
  ·obtain ⟨h1, h2, h3, h4⟩ := h.num hi hs h16
   have hw : c.Width = (c.Width.toNat : Nat) := by omega
   refine .num c.Width.toNat hs hw (by omega) h1 (fun hc => ?_) (fun hb => ?_)
   ·obtain ⟨q1, q2⟩ := h3 hc
    exact ⟨by omega, q2⟩
   ·have := h4 (by omega)
    omega
theorem items_not {code : Int} {c : SCtor} (h : Well code c) (hk : c.Kind ≤ 21) : c.Items = false := by
 rw [h.items]
 exact decide_eq_false (by omega)
theorem wrapLen (n : Nat) (h : n < 4611686018427387904) : IntKind.u64.wrap (n : Int) = n := u64_wrap _ (by omega)
theorem fin_if (k : Int) (v : SValue) (n : Int) : (if k = 0 then some (v, n, (0 : Int)) else if k = 2 then some (⟨0, 0, [], []⟩, 0, 5) else some (⟨0, 0, [], []⟩, 0, k)) = some (if k = 0 then (v, n, 0) else (zeroV, 0, if k = 2 then 5 else k)) := by
 split
 ·rfl
 ·split <;> rfl
theorem Get_eq (N : Nat) (code : Int) (s : List UInt8) (hs : sane s) (h : s.length < N) (hN : 20 < N) : FapGet N code s = some (getS code s) := by
 simp only [FapGet, FapOf, Option.bind_some, cond_eq, getS]
 cases hb : ofB code with
 | false => simp only [Bool.not_false, if_true, true_or]; rfl
 | true =>
  have hw := well code hb
  simp only [Bool.not_true, Bool.false_eq_true, if_false, Bool.true_eq_false, false_or]
  cases hi : (ofS code).Items with
  | true => rfl
  | false =>
   simp only [Bool.false_eq_true, if_false]
   generalize ofS code = c at *
   have hz : (0 : Int) = ((0 : Nat) : Int) := rfl
   cases hw.shape hi with
   | sized w hsz hw' h12 hk hc =>
    rw [hsz, hw', Number_eq N s w hs (by omega) (by omega)]
    simp only [if_true, Option.bind_some, Int.toNat_natCast]
    by_cases hl : w ≤ s.length
    ·rw [if_pos hl]
     simp only []
     rw [Left_eq N s w 0 hl, if_neg (by omega)]
     simp only [Option.bind_some, gtr_t]
     have hlt := numB_lt (s.take w)
     have h4 : 256 ^ (s.take w).length ≤ 256 ^ 4 := Nat.pow_le_pow_right (by omega) (by rw [List.length_take]; omega)
     have h5 : (256 : Nat) ^ 4 = 4294967296 := rfl
     unfold sane at hs
     rw [wrapLen _ (by omega)]
     generalize hm : numB (s.take w) = m at *
     by_cases h6 : s.length - w < m
     ·rw [if_pos (by omega), if_pos h6]; rfl
     ·rw [if_neg (by omega), if_neg h6]
      rw [wrap64 _ (by omega), Take_eq N s w m (by unfold sane; omega) hl (by omega), if_pos (by omega)]
      have hcl : ((s.drop w).take m).length ≤ s.length := by rw [List.length_take, List.length_drop]; omega
      simp only [Option.bind_some, FocCursor_Err, FocCursor_At, neq_t]
      rw [if_neg (by simp), Check_eq N _ okU0 (by dsimp only; omega) (by dsimp only; omega)]
      simp only [Option.bind_some, eql_t]
      rw [fin_if]
      unfold finS
      rw [show ((w + m : Nat) : Int) = (w : Int) + (m : Int) by push_cast; rfl]
    ·rw [if_neg hl, if_pos (by omega)]
     simp only []
     have := Left_eq N s 0 3 (by omega)
     rw [← hz] at this
     rw [this]
     simp only [Option.bind_some, gtr_t]
     unfold sane at hs
     rw [wrapLen _ (by omega), if_neg (by omega)]
     have e0 : FocCursor_Take N ⟨s, 0, 3⟩ (IntKind.i64.wrap 0) = some ([], ⟨s, 0, 3⟩) := by
      simp only [FocCursor_Take, FocCursor_ready, Option.bind_some, cond_eq]
      rfl
     rw [e0]
     simp only [Option.bind_some, FocCursor_Err, neq_t]
     rw [if_pos (by decide)]; rfl
   | wide hsz hw' hk hc =>
    rw [hsz, hw']
    simp only [Bool.false_eq_true, if_false, eql_t, if_true]
    have := Take_eq N s 0 16 hs (by omega) (by omega)
    rw [← hz, show ((16 : Nat) : Int) = 16 from rfl] at this
    rw [this]
    simp only [Nat.sub_zero, List.drop_zero, Option.bind_some]
    by_cases hl : 16 ≤ s.length
    ·rw [if_pos hl, if_neg (by omega)]
     have hcl : (s.take 16).length ≤ s.length := by rw [List.length_take]; omega
     unfold sane at hs
     simp only [Option.bind_some, FocCursor_Err, FocCursor_At, neq_t]
     rw [if_neg (by simp), Check_eq N _ okU0 (by dsimp only; omega) (by dsimp only; omega)]
     simp only [Option.bind_some]
     rw [fin_if]
     rfl
    ·rw [if_neg hl, if_pos (by omega)]
     simp only [FocCursor_Err, Option.bind_some, neq_t]
     rw [if_pos (by decide)]; rfl
   | num w hsz hw' hh ht hc hbb =>
    rw [hsz, hw']
    simp only [Bool.false_eq_true, if_false, eql_t, Int.toNat_natCast]
    rw [if_neg (by omega), if_neg (show ¬ ((w : Int) = 16) by omega)]
    by_cases h65 : c.Code = 65
    ·obtain ⟨rfl, hk2⟩ := hc h65
     rw [if_pos h65, if_pos h65, if_neg (by omega)]
     simp only [Option.bind_some, FocCursor_Err, FocCursor_At, neq_t]
     rw [if_neg (by simp), Check_eq N _ okU1 (by simp only [List.length_nil]; omega) (by simp only [List.length_nil]; omega)]
     simp only [Option.bind_some]
     rw [fin_if]
     rfl
    ·rw [if_neg h65, if_neg h65, Number_eq N s w hs (by omega) (by omega)]
     simp only [Option.bind_some]
     by_cases hl : w ≤ s.length
     ·rw [if_pos hl, if_neg (by omega)]
      have hlt := numB_lt (s.take w)
      rw [List.length_take, Nat.min_eq_left hl] at hlt
      simp only []
      rw [widen_eq N c _ w hw' hh hlt]
      simp only [Option.bind_some, FocCursor_Err, FocCursor_At, neq_t]
      have hu : okU (widenS c (numB (s.take w) : Nat)) := by
       rcases hh with rfl | hh
       ·have : widenS c (numB (s.take 0) : Nat) = 0 := by
         unfold widenS
         rw [if_neg (by omega)]; rfl
        rw [this]; exact ⟨by decide, by decide⟩
       ·exact (widen_mod hw' (by omega) hlt).1
      rw [if_neg (by simp), Check_eq N _ hu (by simp only [List.length_nil]; omega) (by simp only [List.length_nil]; omega)]
      simp only [Option.bind_some]
      rw [fin_if]
      rfl
     ·rw [if_neg hl, if_pos (by omega)]
      simp only []
      rw [hz, widen_eq N c 0 w hw' hh (Nat.pow_pos (by omega))]
      simp only [Option.bind_some, FocCursor_Err, neq_t]
      rw [if_pos (by decide)]; rfl
end
end Go.Av
namespace Go.Av
noncomputable section
open Go.Proofs
set_option maxRecDepth 100000
theorem SValue.ext' {v w : SValue} (h1 : v.Kind = w.Kind) (h2 : v.N' = w.N') (h3 : v.Text = w.Text) (h4 : v.Items = w.Items) : v = w := by
 cases v; cases w; simp_all
theorem textS_sized {k : Int} (h : 19 ≤ k ∧ k ≤ 21) : textS k = true := by
 unfold textS; exact decide_eq_true (by omega)
theorem textS_wide {k : Int} (h : k = 15 ∨ k = 18) : textS k = true := by
 unfold textS; exact decide_eq_true (by omega)
theorem data_len {code : Int} {v : SValue} (hf : fitsC code v = true) : (dataS (ofS code) v).length = (ofS code).Width.toNat + (if (ofS code).Sized then v.Text.length else 0) := by
 obtain ⟨f1, f2, f3, f4⟩ := fitsC_t hf
 obtain ⟨c1, c2, c3, c4, c5, c6, c7⟩ := check_ok f3
 have hw := well code f1
 have hi := items_not hw (by omega)
 unfold dataS
 cases hw.shape hi with
 | sized w hs hw' h12 hk hc => rw [hs]; simp [bigB_len]
 | wide hs hw' hk hc =>
  rw [hs, hw']
  simp [c6 (by omega)]
 | num w hs hw' hh ht hc hbb =>
  rw [hs, hw']
  simp only [Bool.false_eq_true, if_false]
  rw [if_neg (by omega), bigB_len]; rfl
theorem num_fits {code : Int} {v : SValue} {w : Nat} (_hn : okU v.N') (hf : fitsC code v = true) (hs : (ofS code).Sized = false) (hw' : (ofS code).Width = w) (hh : w = 1 ∨ w = 2 ∨ w = 4 ∨ w = 8) (h65 : (ofS code).Code ≠ 65)
  (hbb : 2 ≤ w → (bitsS (ofS code).Kind).1 = 8 * w) : fitsS v.N' (8 * w) (bitsS (ofS code).Kind).2 = true := by
 obtain ⟨f1, f2, f3, f4⟩ := fitsC_t hf
 obtain ⟨c1, c2, c3, c4, c5, c6, c7⟩ := check_ok f3
 unfold saysS at f4
 rw [if_neg h65, hs, hw'] at f4
 simp only [Bool.false_eq_true, if_false] at f4
 rw [if_neg (by omega)] at f4
 by_cases h1 : w = 1
 ·subst h1
  rw [if_pos (by decide)] at f4
  exact f4
 ·simp only [okNum, Bool.and_eq_true] at c3
  have := c3.1
  rw [← f2, hbb (by omega)] at this
  exact this
theorem back {code : Int} {v : SValue} (hn : okU v.N') (hf : fitsC code v = true) (s : List UInt8) : getS code (dataS (ofS code) v ++ s) = (v, ((dataS (ofS code) v).length : Int), 0) := by
 have hlen := data_len hf
 obtain ⟨f1, f2, f3, f4⟩ := fitsC_t hf
 obtain ⟨c1, c2, c3, c4, c5, c6, c7⟩ := check_ok f3
 have hw := well code f1
 have hi := items_not hw (by omega)
 have nf := fun w => num_fits (w := w) hn hf
 unfold getS
 rw [f1, hi, if_neg (by simp)]
 have hd : dataS (ofS code) v = dataS (ofS code) v := rfl
 unfold dataS at hd hlen ⊢
 cases hw.shape hi with
 | sized w hs hw' h12 hk hc =>
  simp only [hs, hw', if_true, Int.toNat_natCast, List.append_assoc]
  have hbl := bigB_len w v.Text.length
  have e1 : (bigB v.Text.length w ++ (v.Text ++ s)).take w = bigB v.Text.length w := List.take_left' hbl
  have e2 : (bigB v.Text.length w ++ (v.Text ++ s)).drop w = v.Text ++ s := List.drop_left' hbl
  have htx : textS v.Kind = true := textS_sized (by omega)
  have hn0 := textS_num htx c3 hn.1
  have e3 : v.Text.length % 256 ^ w = v.Text.length := by
   apply Nat.mod_eq_of_lt
   unfold saysS at f4
   rw [if_neg hc, hs, if_pos rfl, hw'] at f4
   rcases h12 with rfl | rfl
   ·simp at f4; omega
   ·omega
  rw [e1, e2, numB_big, e3, List.take_left' rfl]
  rw [if_neg (by simp [hbl]; omega), if_neg (by simp [hbl])]
  have ev : (⟨(ofS code).Kind, 0, v.Text, []⟩ : SValue) = v := SValue.ext' f2 hn0.symm rfl c4.symm
  rw [ev, finS, if_pos f3]
  simp [hbl]
 | wide hs hw' hk hc =>
  simp only [hs, hw', Bool.false_eq_true, if_false, if_true]
  have h16 := c6 (by omega)
  have htx : textS v.Kind = true := textS_wide (by omega)
  have hn0 := textS_num htx c3 hn.1
  rw [if_neg (by simp [h16]; omega), List.take_left' h16]
  have ev : (⟨(ofS code).Kind, 0, v.Text, []⟩ : SValue) = v := SValue.ext' f2 hn0.symm rfl c4.symm
  rw [ev, finS, if_pos f3]
  simp [h16]
 | num w hs hw' hh ht hc hbb =>
  simp only [hs, hw', Bool.false_eq_true, if_false, Int.toNat_natCast]
  have h16 : ¬ ((w : Int) = 16) := by omega
  have hbl := bigB_len w v.N'.toNat
  have ht0 := c5 (by rw [← f2]; exact ht)
  simp only [h16, if_false]
  rw [if_neg (by simp [hbl]; omega)]
  by_cases h65 : (ofS code).Code = 65
  ·obtain ⟨rfl, hk2⟩ := hc h65
   rw [if_pos h65]
   have hn1 : v.N' = 1 := by
    unfold saysS at f4
    rw [if_pos h65] at f4
    simpa using f4
   have ev : (⟨(ofS code).Kind, 1, [], []⟩ : SValue) = v := SValue.ext' f2 hn1.symm ht0.symm c4.symm
   rw [ev, finS, if_pos f3]
   simp [hbl]
  ·rw [if_neg h65, List.take_left' hbl, numB_big]
   have e : widenS (ofS code) ((v.N'.toNat % 256 ^ w : Nat) : Int) = v.N' := by
    rcases hh with rfl | hh
    ·unfold saysS at f4
     rw [if_neg h65, hs, hw'] at f4
     simp at f4
     unfold widenS
     rw [if_neg (by omega), f4]; rfl
    ·exact fits_back hw' hh hn (nf w hs hw' hh h65 hbb)
   rw [e]
   have ev : (⟨(ofS code).Kind, v.N', [], []⟩ : SValue) = v := SValue.ext' f2 rfl ht0.symm c4.symm
   rw [ev, finS, if_pos f3]
   simp [hbl]
end
end Go.Av
namespace Go.Av
noncomputable section
open Go.Proofs
set_option maxRecDepth 100000
theorem fin_ok {v x : SValue} {n m : Int} (h : finS v n = (x, m, 0)) : checkS v = 0 ∧ x = v ∧ m = n := by
 unfold finS at h
 split at h
 ·rename_i h0
  cases h
  exact ⟨h0, rfl, rfl⟩
 ·rename_i h0
  simp only [Prod.mk.injEq] at h
  split at h <;> omega
theorem fin_bad {v x : SValue} {n m e : Int} (h : finS v n = (x, m, e)) (he : e ≠ 0) : m = 0 ∧ x = zeroV := by
 unfold finS at h
 split at h
 ·cases h; exact absurd rfl he
 ·cases h; exact ⟨rfl, rfl⟩
theorem get_bad {code : Int} {s : List UInt8} {x : SValue} {n e : Int} (h : getS code s = (x, n, e)) (he : e ≠ 0) : n = 0 ∧ x = zeroV := by
 unfold getS at h
 repeat' split at h
 all_goals first | exact fin_bad h he | (cases h; exact ⟨rfl, rfl⟩)
theorem reads {code : Int} {s : List UInt8} {x : SValue} {n : Int} (hs : sane s) (h : getS code s = (x, n, 0)) : 0 ≤ n ∧ n ≤ s.length ∧ okU x.N' ∧ x.Text.length ≤ s.length ∧ checkS x = 0 ∧ fitsC code x = true ∧ dataS (ofS code) x = s.take n.toNat := by
 unfold getS at h
 split at h
 ·cases h
 rename_i h1
 have hb : ofB code = true := by
  cases hb : ofB code with
  | true => rfl
  | false => exact absurd (.inl hb) h1
 have hi : (ofS code).Items = false := by
  cases hi : (ofS code).Items with
  | false => rfl
  | true => exact absurd (.inr hi) h1
 have hw := well code hb
 split at h
 ·cases h
 rename_i h2
 have fit : ∀ v : SValue, v.Kind = (ofS code).Kind → checkS v = 0 → saysS (ofS code) v = true → fitsC code v = true := fun v q1 q2 q3 => by
  simp only [fitsC, hb, q1, q2, q3, decide_true, Bool.and_self]
 have hd : ∀ v, dataS (ofS code) v = dataS (ofS code) v := fun _ => rfl
 unfold sane at hs
 cases hw.shape hi with
 | sized w hsz hw' h12 hk hc =>
  simp only [hsz, hw', if_true, Int.toNat_natCast] at h
  split at h
  ·cases h
  rename_i h3
  obtain ⟨q1, rfl, rfl⟩ := fin_ok h
  have hlw : w ≤ s.length := by omega
  have hmlt := numB_lt (s.take w)
  rw [List.length_take, Nat.min_eq_left hlw] at hmlt
  have hbn := big_num (s.take w)
  rw [List.length_take, Nat.min_eq_left hlw] at hbn
  generalize hm : numB (s.take w) = m at *
  have hlen : ((s.drop w).take m).length = m := by rw [List.length_take, List.length_drop]; omega
  refine ⟨by omega, by omega, okU0, by simp only [hlen]; omega, q1, fit _ rfl q1 ?_, ?_⟩
  ·unfold saysS
   rw [if_neg hc, hsz, if_pos rfl, hw']
   rcases h12 with rfl | rfl
   ·simp only [hlen]
    simp at hmlt
    exact decide_eq_true (.inr (by omega))
   ·exact decide_eq_true (.inl rfl)
  ·unfold dataS
   simp only [hsz, if_true, hw', Int.toNat_natCast, hlen, hbn]
   rw [show ((w : Int) + (m : Int)).toNat = w + m by omega, List.take_add]
 | wide hsz hw' hk hc =>
  simp only [hsz, hw', Bool.false_eq_true, if_false, if_true] at h
  obtain ⟨q1, rfl, rfl⟩ := fin_ok h
  refine ⟨by omega, by omega, okU0, by simp only [List.length_take]; omega, q1, fit _ rfl q1 ?_, ?_⟩
  ·unfold saysS
   rw [if_neg hc, hsz, hw']; rfl
  ·unfold dataS
   simp only [hsz, hw', Bool.false_eq_true, if_false, if_true]
   rfl
 | num w hsz hw' hh ht hc hbb =>
  simp only [hsz, hw', Bool.false_eq_true, if_false, Int.toNat_natCast] at h
  rw [if_neg (show ¬ ((w : Int) = 16) by omega)] at h
  split at h
  ·rename_i h65
   obtain ⟨rfl, hk2⟩ := hc h65
   obtain ⟨q1, rfl, rfl⟩ := fin_ok h
   refine ⟨by omega, by omega, okU1, by simp, q1, fit _ rfl q1 ?_, ?_⟩
   ·unfold saysS
    rw [if_pos h65]; rfl
   ·unfold dataS
    simp only [hsz, hw', Bool.false_eq_true, if_false]
    rfl
  ·rename_i h65
   obtain ⟨q1, rfl, rfl⟩ := fin_ok h
   have hlw : w ≤ s.length := by omega
   have hlt := numB_lt (s.take w)
   have hbn := big_num (s.take w)
   rw [List.length_take, Nat.min_eq_left hlw] at hlt hbn
   rcases hh with rfl | hh
   ·have e0 : widenS (ofS code) (numB (s.take 0) : Nat) = 0 := by
     unfold widenS
     rw [if_neg (by omega)]; rfl
    rw [e0] at q1 ⊢
    refine ⟨by omega, by omega, okU0, by simp, q1, fit _ rfl q1 ?_, ?_⟩
    ·unfold saysS
     rw [if_neg h65, hsz, hw']; rfl
    ·unfold dataS
     simp only [hsz, hw', Bool.false_eq_true, if_false]
     rfl
   ·obtain ⟨w1, w2, w3⟩ := widen_mod hw' hh hlt
    refine ⟨by omega, by omega, w1, by simp, q1, fit _ rfl q1 ?_, ?_⟩
    ·unfold saysS
     rw [if_neg h65, hsz, hw']
     simp only [Bool.false_eq_true, if_false]
     rw [if_neg (by omega)]
     split
     ·rename_i h1
      have : w = 1 := by omega
      subst this
      exact w3
     ·rfl
    ·unfold dataS
     simp only [hsz, hw', Bool.false_eq_true, if_false, Int.toNat_natCast]
     rw [if_neg (by omega), ← bigB_mod, w2, hbn]
end
end Go.Av
namespace Go.Av
noncomputable section
open Go.Proofs
set_option maxRecDepth 100000
/-! the reference: its table -/
def refTab : List SCtor := (Fq6table 0).getD []
theorem refTab_eq (N : Nat) : Fq6table N = some refTab := rfl
theorem refTab_len : refTab.length = 40 := rfl
def tupC (c : SCtor) : Int × Int × Int × Bool × Bool := (c.Code, c.Kind, c.Width, c.Sized, c.Items)
theorem tupC_inj {c d : SCtor} (h : tupC c = tupC d) : c = d := by
 cases c; cases d
 simp only [tupC, Prod.mk.injEq] at h
 simp [h]
def fndO : Option SCtor → SCtor × Bool
 | some c => (c, true)
 | none => (⟨0, 0, 0, false, false⟩, false)
theorem refOf_L0 (N : Nat) (code : Int) (l : List SCtor) (hl : l.length < 1000) : ∀ (n i : Nat), i ≤ l.length → l.length - i < n → Fq6Of_L0 N code l n (i : Int) = some (fndO ((l.drop i).find? (fun c => decide (c.Code = code))))
 | 0, i, _, h => by omega
 | n + 1, i, hi, hn => by
  simp only [Fq6Of_L0, cond_eq, lss_t, eql_t, rowsC_length, idx_nat]
  by_cases h : i < l.length
  ·rw [if_pos (by omega), List.getElem?_eq_getElem h, List.drop_eq_getElem_cons h, List.find?_cons]
   simp only [Option.bind_some]
   by_cases hc : l[i].Code = code
   ·rw [if_pos hc, decide_eq_true hc]; rfl
   ·rw [if_neg hc, decide_eq_false hc, wrap64 _ (by omega)]
    exact_mod_cast refOf_L0 N code l hl n (i + 1) (by omega) (by omega)
  ·rw [if_neg (by omega), List.drop_of_length_le (by omega)]; rfl
def refB (n : Nat) : Bool := decide ((tupC (fndO (refTab.find? (fun c => decide (c.Code = (n : Int))))).1, (fndO (refTab.find? (fun c => decide (c.Code = (n : Int))))).2) = (tupC (ofS n), ofB n))
theorem refB_all : ((List.range 256).all refB) = true := by decide +kernel
theorem ofB_range {code : Int} (h : ofB code = true) : 0 ≤ code ∧ code < 256 := by
 have h1 : bsI code < 40 ∧ codeAt (bsI code) = code := by simpa [ofB] using h
 have hall : ((List.range 40).all fun k => decide (0 ≤ codeAt k ∧ codeAt k < 256)) = true := by decide +kernel
 have := List.all_eq_true.1 hall (bsI code) (by simpa using h1.1)
 rw [h1.2] at this
 simpa using this
theorem ref_range : (refTab.all fun c => decide (0 ≤ c.Code ∧ c.Code < 256)) = true := by decide +kernel
theorem refOf_eq (N : Nat) (code : Int) (hN : 50 < N) : Fq6Of N code = some (ofS code, ofB code) := by
 simp only [Fq6Of, refTab_eq, Option.bind_some]
 have := refOf_L0 N code refTab (by rw [refTab_len]; omega) N 0 (by omega) (by rw [refTab_len]; omega)
 rw [show ((0 : Nat) : Int) = 0 from rfl] at this
 rw [this, List.drop_zero, Option.some.injEq]
 by_cases h : 0 ≤ code ∧ code < 256
 ·have h1 := List.all_eq_true.1 refB_all code.toNat (by simp; omega)
  simp only [refB, show ((code.toNat : Nat) : Int) = code by omega, decide_eq_true_eq, Prod.mk.injEq] at h1
  exact Prod.ext (tupC_inj h1.1) h1.2
 ·have hb : ofB code = false := by
   cases hb : ofB code with
   | false => rfl
   | true => exact absurd (ofB_range hb) h
  have hf : refTab.find? (fun c => decide (c.Code = code)) = none := by
   rw [List.find?_eq_none]
   intro c hc hcc
   have := List.all_eq_true.1 ref_range c hc
   simp only [decide_eq_true_eq] at this hcc
   omega
  rw [hf, hb, ofS_none code hb]; rfl
/-! texts -/
theorem inB_drop (s : List UInt8) (i k lo hi : Nat) : inB (s.drop i) k lo hi = inB s (i + k) lo hi := by
 unfold inB
 rw [List.getElem?_drop]
theorem after_eq (N : Nat) (s : List UInt8) (i k lo hi : Nat) : Fq6after N s ((i + k : Nat) : Int) (lo : Int) (hi : Int) = some (inB (s.drop i) k lo hi) := by
 rw [inB_drop]
 simp only [Fq6after, cond_eq, lss_t, geq_t, idx_nat, inB]
 by_cases h : i + k < s.length
 ·rw [if_pos (by omega), List.getElem?_eq_getElem h]
  simp only [Option.bind_some]
  by_cases h1 : lo ≤ s[i + k].toNat
  ·rw [if_pos (by omega)]
   simp only [cmpI, h1, true_and, Option.some.injEq, decide_eq_decide]; omega
  ·rw [if_neg (by omega)]
   simp only [h1, false_and, decide_false]
 ·rw [if_neg (by omega), List.getElem?_eq_none (by omega)]
def cpB (s : List UInt8) (b : Nat) : Nat := if b < 128 then 1
  else if 194 ≤ b ∧ b ≤ 223 then (if inB s 1 128 191 then 2 else 0)
  else if b = 224 then (if inB s 1 160 191 && inB s 2 128 191 then 3 else 0)
  else if b = 237 then (if inB s 1 128 159 && inB s 2 128 191 then 3 else 0)
  else if 225 ≤ b ∧ b ≤ 239 then (if inB s 1 128 191 && inB s 2 128 191 then 3 else 0)
  else if b = 240 then (if inB s 1 144 191 && inB s 2 128 191 && inB s 3 128 191 then 4 else 0)
  else if 241 ≤ b ∧ b ≤ 243 then (if inB s 1 128 191 && inB s 2 128 191 && inB s 3 128 191 then 4 else 0)
  else if b = 244 then (if inB s 1 128 143 && inB s 2 128 191 && inB s 3 128 191 then 4 else 0)
  else 0
theorem step_cases (b : Nat) : (b < 128) ∨ (194 ≤ b ∧ b ≤ 223) ∨ (b = 224) ∨ (b = 237) ∨ (225 ≤ b ∧ b ≤ 239 ∧ b ≠ 237) ∨ (b = 240) ∨ (241 ≤ b ∧ b ≤ 243) ∨ (b = 244) ∨ (128 ≤ b ∧ b < 194) ∨ (244 < b) := by omega
theorem step_eq (N : Nat) (s : List UInt8) (i : Nat) (hb : s.length < 4611686018427387904) (hi : i < s.length) : Fq6step N s (i : Int) = some ((cpN (s.drop i) : Nat) : Int) := by
 have e1 : IntKind.i64.wrap ((i : Int) + 1) = ((i + 1 : Nat) : Int) := by rw [wrap64 _ (by omega)]; push_cast; rfl
 have e2 : IntKind.i64.wrap ((i : Int) + 2) = ((i + 2 : Nat) : Int) := by rw [wrap64 _ (by omega)]; push_cast; rfl
 have e3 : IntKind.i64.wrap ((i : Int) + 3) = ((i + 3 : Nat) : Int) := by rw [wrap64 _ (by omega)]; push_cast; rfl
 have c0 : Fq6after N s ((i + 1 : Nat) : Int) 128 191 = some (inB (s.drop i) 1 128 191) := after_eq N s i 1 128 191
 have c1 : Fq6after N s ((i + 2 : Nat) : Int) 128 191 = some (inB (s.drop i) 2 128 191) := after_eq N s i 2 128 191
 have c2 : Fq6after N s ((i + 3 : Nat) : Int) 128 191 = some (inB (s.drop i) 3 128 191) := after_eq N s i 3 128 191
 have c3 : Fq6after N s ((i + 1 : Nat) : Int) 160 191 = some (inB (s.drop i) 1 160 191) := after_eq N s i 1 160 191
 have c4 : Fq6after N s ((i + 1 : Nat) : Int) 128 159 = some (inB (s.drop i) 1 128 159) := after_eq N s i 1 128 159
 have c5 : Fq6after N s ((i + 1 : Nat) : Int) 144 191 = some (inB (s.drop i) 1 144 191) := after_eq N s i 1 144 191
 have c6 : Fq6after N s ((i + 1 : Nat) : Int) 128 143 = some (inB (s.drop i) 1 128 143) := after_eq N s i 1 128 143
 have hd : s.drop i = s[i] :: s.drop (i + 1) := List.drop_eq_getElem_cons hi
 have hcp : cpN (s.drop i) = cpB (s.drop i) s[i].toNat := by
  rw [hd]; rfl
 rw [hcp]
 simp only [Fq6step, Fq6step_J0, Fq6step_J1, Fq6step_J2, Fq6step_J3, Fq6step_J4, Fq6step_J5, Fq6step_J6, idx_nat, List.getElem?_eq_getElem hi, Option.bind_some, cond_eq, lss_t, geq_t, leq_t, eql_t, neq_t, e1, e2, e3]
 simp only [c0, c1, c2, c3, c4, c5, c6, Option.bind_some, cpB]
 generalize s[i].toNat = b
 generalize inB (s.drop i) 1 128 191 = q1
 generalize inB (s.drop i) 2 128 191 = q2
 generalize inB (s.drop i) 3 128 191 = q3
 generalize inB (s.drop i) 1 160 191 = q4
 generalize inB (s.drop i) 1 128 159 = q5
 generalize inB (s.drop i) 1 144 191 = q6
 generalize inB (s.drop i) 1 128 143 = q7
 rcases step_cases b with h | h | h | h | h | h | h | h | h | h
 ·simp only [show ((b : Int) < 128) = True from eq_true (by omega), show ((b : Int) ≥ 194) = False from eq_false (by omega), show ((b : Int) ≤ 223) = True from eq_true (by omega), show ((b : Int) = 224) = False from eq_false (by omega), show ((b : Int) = 237) = False from eq_false (by omega), show ((b : Int) ≥ 225) = False from eq_false (by omega), show ((b : Int) ≤ 239) = True from eq_true (by omega), show ((b : Int) ≠ 237) = True from eq_true (by omega), show ((b : Int) = 240) = False from eq_false (by omega), show ((b : Int) ≥ 241) = False from eq_false (by omega), show ((b : Int) ≤ 243) = True from eq_true (by omega), show ((b : Int) = 244) = False from eq_false (by omega), show (b < 128) = True from eq_true (by omega), show (194 ≤ b ∧ b ≤ 223) = False from eq_false (by omega), show (b = 224) = False from eq_false (by omega), show (b = 237) = False from eq_false (by omega), show (225 ≤ b ∧ b ≤ 239) = False from eq_false (by omega), show (b = 240) = False from eq_false (by omega), show (241 ≤ b ∧ b ≤ 243) = False from eq_false (by omega), show (b = 244) = False from eq_false (by omega), if_true, if_false, ite_self, Bool.false_eq_true]
  try (cases q1 <;> cases q2 <;> cases q3 <;> cases q4 <;> cases q5 <;> cases q6 <;> cases q7 <;> rfl)
 ·simp only [show ((b : Int) < 128) = False from eq_false (by omega), show ((b : Int) ≥ 194) = True from eq_true (by omega), show ((b : Int) ≤ 223) = True from eq_true (by omega), show ((b : Int) = 224) = False from eq_false (by omega), show ((b : Int) = 237) = False from eq_false (by omega), show ((b : Int) ≥ 225) = False from eq_false (by omega), show ((b : Int) ≤ 239) = True from eq_true (by omega), show ((b : Int) ≠ 237) = True from eq_true (by omega), show ((b : Int) = 240) = False from eq_false (by omega), show ((b : Int) ≥ 241) = False from eq_false (by omega), show ((b : Int) ≤ 243) = True from eq_true (by omega), show ((b : Int) = 244) = False from eq_false (by omega), show (b < 128) = False from eq_false (by omega), show (194 ≤ b ∧ b ≤ 223) = True from eq_true (by omega), show (b = 224) = False from eq_false (by omega), show (b = 237) = False from eq_false (by omega), show (225 ≤ b ∧ b ≤ 239) = False from eq_false (by omega), show (b = 240) = False from eq_false (by omega), show (241 ≤ b ∧ b ≤ 243) = False from eq_false (by omega), show (b = 244) = False from eq_false (by omega), if_true, if_false, ite_self, Bool.false_eq_true]
  try (cases q1 <;> cases q2 <;> cases q3 <;> cases q4 <;> cases q5 <;> cases q6 <;> cases q7 <;> rfl)
 ·simp only [show ((b : Int) < 128) = False from eq_false (by omega), show ((b : Int) ≥ 194) = True from eq_true (by omega), show ((b : Int) ≤ 223) = False from eq_false (by omega), show ((b : Int) = 224) = True from eq_true (by omega), show ((b : Int) = 237) = False from eq_false (by omega), show ((b : Int) ≥ 225) = False from eq_false (by omega), show ((b : Int) ≤ 239) = True from eq_true (by omega), show ((b : Int) ≠ 237) = True from eq_true (by omega), show ((b : Int) = 240) = False from eq_false (by omega), show ((b : Int) ≥ 241) = False from eq_false (by omega), show ((b : Int) ≤ 243) = True from eq_true (by omega), show ((b : Int) = 244) = False from eq_false (by omega), show (b < 128) = False from eq_false (by omega), show (194 ≤ b ∧ b ≤ 223) = False from eq_false (by omega), show (b = 224) = True from eq_true (by omega), show (b = 237) = False from eq_false (by omega), show (225 ≤ b ∧ b ≤ 239) = False from eq_false (by omega), show (b = 240) = False from eq_false (by omega), show (241 ≤ b ∧ b ≤ 243) = False from eq_false (by omega), show (b = 244) = False from eq_false (by omega), if_true, if_false, ite_self, Bool.false_eq_true]
  try (cases q1 <;> cases q2 <;> cases q3 <;> cases q4 <;> cases q5 <;> cases q6 <;> cases q7 <;> rfl)
 ·simp only [show ((b : Int) < 128) = False from eq_false (by omega), show ((b : Int) ≥ 194) = True from eq_true (by omega), show ((b : Int) ≤ 223) = False from eq_false (by omega), show ((b : Int) = 224) = False from eq_false (by omega), show ((b : Int) = 237) = True from eq_true (by omega), show ((b : Int) ≥ 225) = True from eq_true (by omega), show ((b : Int) ≤ 239) = True from eq_true (by omega), show ((b : Int) ≠ 237) = False from eq_false (by omega), show ((b : Int) = 240) = False from eq_false (by omega), show ((b : Int) ≥ 241) = False from eq_false (by omega), show ((b : Int) ≤ 243) = True from eq_true (by omega), show ((b : Int) = 244) = False from eq_false (by omega), show (b < 128) = False from eq_false (by omega), show (194 ≤ b ∧ b ≤ 223) = False from eq_false (by omega), show (b = 224) = False from eq_false (by omega), show (b = 237) = True from eq_true (by omega), show (225 ≤ b ∧ b ≤ 239) = True from eq_true (by omega), show (b = 240) = False from eq_false (by omega), show (241 ≤ b ∧ b ≤ 243) = False from eq_false (by omega), show (b = 244) = False from eq_false (by omega), if_true, if_false, ite_self, Bool.false_eq_true]
  try (cases q1 <;> cases q2 <;> cases q3 <;> cases q4 <;> cases q5 <;> cases q6 <;> cases q7 <;> rfl)
 ·simp only [show ((b : Int) < 128) = False from eq_false (by omega), show ((b : Int) ≥ 194) = True from eq_true (by omega), show ((b : Int) ≤ 223) = False from eq_false (by omega), show ((b : Int) = 224) = False from eq_false (by omega), show ((b : Int) = 237) = False from eq_false (by omega), show ((b : Int) ≥ 225) = True from eq_true (by omega), show ((b : Int) ≤ 239) = True from eq_true (by omega), show ((b : Int) ≠ 237) = True from eq_true (by omega), show ((b : Int) = 240) = False from eq_false (by omega), show ((b : Int) ≥ 241) = False from eq_false (by omega), show ((b : Int) ≤ 243) = True from eq_true (by omega), show ((b : Int) = 244) = False from eq_false (by omega), show (b < 128) = False from eq_false (by omega), show (194 ≤ b ∧ b ≤ 223) = False from eq_false (by omega), show (b = 224) = False from eq_false (by omega), show (b = 237) = False from eq_false (by omega), show (225 ≤ b ∧ b ≤ 239) = True from eq_true (by omega), show (b = 240) = False from eq_false (by omega), show (241 ≤ b ∧ b ≤ 243) = False from eq_false (by omega), show (b = 244) = False from eq_false (by omega), if_true, if_false, ite_self, Bool.false_eq_true]
  try (cases q1 <;> cases q2 <;> cases q3 <;> cases q4 <;> cases q5 <;> cases q6 <;> cases q7 <;> rfl)
 ·simp only [show ((b : Int) < 128) = False from eq_false (by omega), show ((b : Int) ≥ 194) = True from eq_true (by omega), show ((b : Int) ≤ 223) = False from eq_false (by omega), show ((b : Int) = 224) = False from eq_false (by omega), show ((b : Int) = 237) = False from eq_false (by omega), show ((b : Int) ≥ 225) = True from eq_true (by omega), show ((b : Int) ≤ 239) = False from eq_false (by omega), show ((b : Int) ≠ 237) = True from eq_true (by omega), show ((b : Int) = 240) = True from eq_true (by omega), show ((b : Int) ≥ 241) = False from eq_false (by omega), show ((b : Int) ≤ 243) = True from eq_true (by omega), show ((b : Int) = 244) = False from eq_false (by omega), show (b < 128) = False from eq_false (by omega), show (194 ≤ b ∧ b ≤ 223) = False from eq_false (by omega), show (b = 224) = False from eq_false (by omega), show (b = 237) = False from eq_false (by omega), show (225 ≤ b ∧ b ≤ 239) = False from eq_false (by omega), show (b = 240) = True from eq_true (by omega), show (241 ≤ b ∧ b ≤ 243) = False from eq_false (by omega), show (b = 244) = False from eq_false (by omega), if_true, if_false, ite_self, Bool.false_eq_true]
  try (cases q1 <;> cases q2 <;> cases q3 <;> cases q4 <;> cases q5 <;> cases q6 <;> cases q7 <;> rfl)
 ·simp only [show ((b : Int) < 128) = False from eq_false (by omega), show ((b : Int) ≥ 194) = True from eq_true (by omega), show ((b : Int) ≤ 223) = False from eq_false (by omega), show ((b : Int) = 224) = False from eq_false (by omega), show ((b : Int) = 237) = False from eq_false (by omega), show ((b : Int) ≥ 225) = True from eq_true (by omega), show ((b : Int) ≤ 239) = False from eq_false (by omega), show ((b : Int) ≠ 237) = True from eq_true (by omega), show ((b : Int) = 240) = False from eq_false (by omega), show ((b : Int) ≥ 241) = True from eq_true (by omega), show ((b : Int) ≤ 243) = True from eq_true (by omega), show ((b : Int) = 244) = False from eq_false (by omega), show (b < 128) = False from eq_false (by omega), show (194 ≤ b ∧ b ≤ 223) = False from eq_false (by omega), show (b = 224) = False from eq_false (by omega), show (b = 237) = False from eq_false (by omega), show (225 ≤ b ∧ b ≤ 239) = False from eq_false (by omega), show (b = 240) = False from eq_false (by omega), show (241 ≤ b ∧ b ≤ 243) = True from eq_true (by omega), show (b = 244) = False from eq_false (by omega), if_true, if_false, ite_self, Bool.false_eq_true]
  try (cases q1 <;> cases q2 <;> cases q3 <;> cases q4 <;> cases q5 <;> cases q6 <;> cases q7 <;> rfl)
 ·simp only [show ((b : Int) < 128) = False from eq_false (by omega), show ((b : Int) ≥ 194) = True from eq_true (by omega), show ((b : Int) ≤ 223) = False from eq_false (by omega), show ((b : Int) = 224) = False from eq_false (by omega), show ((b : Int) = 237) = False from eq_false (by omega), show ((b : Int) ≥ 225) = True from eq_true (by omega), show ((b : Int) ≤ 239) = False from eq_false (by omega), show ((b : Int) ≠ 237) = True from eq_true (by omega), show ((b : Int) = 240) = False from eq_false (by omega), show ((b : Int) ≥ 241) = True from eq_true (by omega), show ((b : Int) ≤ 243) = False from eq_false (by omega), show ((b : Int) = 244) = True from eq_true (by omega), show (b < 128) = False from eq_false (by omega), show (194 ≤ b ∧ b ≤ 223) = False from eq_false (by omega), show (b = 224) = False from eq_false (by omega), show (b = 237) = False from eq_false (by omega), show (225 ≤ b ∧ b ≤ 239) = False from eq_false (by omega), show (b = 240) = False from eq_false (by omega), show (241 ≤ b ∧ b ≤ 243) = False from eq_false (by omega), show (b = 244) = True from eq_true (by omega), if_true, if_false, ite_self, Bool.false_eq_true]
  try (cases q1 <;> cases q2 <;> cases q3 <;> cases q4 <;> cases q5 <;> cases q6 <;> cases q7 <;> rfl)
 ·simp only [show ((b : Int) < 128) = False from eq_false (by omega), show ((b : Int) ≥ 194) = False from eq_false (by omega), show ((b : Int) ≤ 223) = True from eq_true (by omega), show ((b : Int) = 224) = False from eq_false (by omega), show ((b : Int) = 237) = False from eq_false (by omega), show ((b : Int) ≥ 225) = False from eq_false (by omega), show ((b : Int) ≤ 239) = True from eq_true (by omega), show ((b : Int) ≠ 237) = True from eq_true (by omega), show ((b : Int) = 240) = False from eq_false (by omega), show ((b : Int) ≥ 241) = False from eq_false (by omega), show ((b : Int) ≤ 243) = True from eq_true (by omega), show ((b : Int) = 244) = False from eq_false (by omega), show (b < 128) = False from eq_false (by omega), show (194 ≤ b ∧ b ≤ 223) = False from eq_false (by omega), show (b = 224) = False from eq_false (by omega), show (b = 237) = False from eq_false (by omega), show (225 ≤ b ∧ b ≤ 239) = False from eq_false (by omega), show (b = 240) = False from eq_false (by omega), show (241 ≤ b ∧ b ≤ 243) = False from eq_false (by omega), show (b = 244) = False from eq_false (by omega), if_true, if_false, ite_self, Bool.false_eq_true]
  try (cases q1 <;> cases q2 <;> cases q3 <;> cases q4 <;> cases q5 <;> cases q6 <;> cases q7 <;> rfl)
 ·simp only [show ((b : Int) < 128) = False from eq_false (by omega), show ((b : Int) ≥ 194) = True from eq_true (by omega), show ((b : Int) ≤ 223) = False from eq_false (by omega), show ((b : Int) = 224) = False from eq_false (by omega), show ((b : Int) = 237) = False from eq_false (by omega), show ((b : Int) ≥ 225) = True from eq_true (by omega), show ((b : Int) ≤ 239) = False from eq_false (by omega), show ((b : Int) ≠ 237) = True from eq_true (by omega), show ((b : Int) = 240) = False from eq_false (by omega), show ((b : Int) ≥ 241) = True from eq_true (by omega), show ((b : Int) ≤ 243) = False from eq_false (by omega), show ((b : Int) = 244) = False from eq_false (by omega), show (b < 128) = False from eq_false (by omega), show (194 ≤ b ∧ b ≤ 223) = False from eq_false (by omega), show (b = 224) = False from eq_false (by omega), show (b = 237) = False from eq_false (by omega), show (225 ≤ b ∧ b ≤ 239) = False from eq_false (by omega), show (b = 240) = False from eq_false (by omega), show (241 ≤ b ∧ b ≤ 243) = False from eq_false (by omega), show (b = 244) = False from eq_false (by omega), if_true, if_false, ite_self, Bool.false_eq_true]
  try (cases q1 <;> cases q2 <;> cases q3 <;> cases q4 <;> cases q5 <;> cases q6 <;> cases q7 <;> rfl)

end
end Go.Av
namespace Go.Av
noncomputable section
open Go.Proofs
set_option maxRecDepth 100000
theorem cpN_le (s : List UInt8) : cpN s ≤ 4 := by
 unfold cpN
 split
 ·omega
 ·repeat' split
  all_goals omega
theorem utf8_L0 (N : Nat) (s : List UInt8) (hb : s.length < 4611686018427387000) : ∀ (n i : Nat), s.length - i < n → i ≤ s.length + 4 → Fq6utf8_L0 N s n (i : Int) = some (validF (s.drop i))
 | 0, i, h, _ => by omega
 | n + 1, i, h, hi => by
  simp only [Fq6utf8_L0, cond_eq, lss_t, eql_t]
  by_cases h1 : i < s.length
  ·rw [if_pos (by omega), step_eq N s i (by omega) h1]
   simp only [Option.bind_some]
   have h4 := cpN_le (s.drop i)
   have hne : s.drop i ≠ [] := by
    intro e
    have := congrArg List.length e
    rw [List.length_drop] at this
    simp at this; omega
   cases hc : cpN (s.drop i) with
   | zero =>
    rw [if_pos (by rfl), valid_bad _ hne hc]
   | succ k =>
    rw [if_neg (by omega), wrap64 _ (by omega), valid_step _ k hc, List.drop_drop]
    have := utf8_L0 N s hb n (i + (k + 1)) (by omega) (by omega)
    rw [show ((i : Int) + ((k + 1 : Nat) : Int)) = ((i + (k + 1) : Nat) : Int) by push_cast; rfl]
    exact this
  ·rw [if_neg (by omega), List.drop_of_length_le (by omega)]; rfl
theorem utf8_eq (N : Nat) (s : List UInt8) (hb : s.length < 4611686018427387000) (h : s.length < N) : Fq6utf8 N s = some (validF s) := by
 have := utf8_L0 N s hb N 0 (by omega) (by omega)
 unfold Fq6utf8
 simpa using this
theorem ascii_L0 (N : Nat) (s : List UInt8) (hb : s.length < 4611686018427387000) : ∀ (n i : Nat), s.length - i < n → i ≤ s.length → Fq6ascii_L0 N s n (i : Int) = some (asciiF (s.drop i))
 | 0, i, h, _ => by omega
 | n + 1, i, h, hi => by
  simp only [Fq6ascii_L0, cond_eq, lss_t, geq_t, idx_nat]
  by_cases h1 : i < s.length
  ·rw [if_pos (by omega), List.getElem?_eq_getElem h1]
   simp only [Option.bind_some]
   by_cases h2 : s[i].toNat < 128
   ·rw [if_neg (by omega), wrap64 _ (by omega), asciiF_drop _ _ h1 h2]
    exact_mod_cast ascii_L0 N s hb n (i + 1) (by omega) (by omega)
   ·rw [if_pos (by omega)]
    have : asciiF (s.drop i) = false := by
     rw [List.drop_eq_getElem_cons h1]
     simp only [asciiF, List.all_cons, decide_eq_false h2, Bool.false_and]
    rw [this]
  ·rw [if_neg (by omega), List.drop_of_length_le (by omega)]; rfl
theorem ascii_eq (N : Nat) (s : List UInt8) (hb : s.length < 4611686018427387000) (h : s.length < N) : Fq6ascii N s = some (asciiF s) := by
 have := ascii_L0 N s hb N 0 (by omega) (by omega)
 unfold Fq6ascii
 simpa using this
theorem signed_eq (N : Nat) (n b : Int) (hn : okU n) (hb : b = 8 ∨ b = 16 ∨ b = 32) : Fq6signed N n b = some (fitsS n b true) := by
 obtain ⟨h0, h1⟩ := hn
 unfold Fq6signed fitsS s64
 simp only [cond_eq, lss_t]
 rcases hb with rfl | rfl | rfl
 ·rw [if_pos (by decide), show shlI .u64 1 (IntKind.u64.wrap (8 - 1)) = 128 by decide, show IntKind.u64.wrap (0 - 128) = 18446744073709551488 by decide]
  simp only [if_true, cmpI]
  split
  ·rename_i h; rw [decide_eq_true]; simp; split <;> omega
  ·rename_i h; rw [Option.some.injEq, decide_eq_decide]; simp; split <;> omega
 ·rw [if_pos (by decide), show shlI .u64 1 (IntKind.u64.wrap (16 - 1)) = 32768 by decide, show IntKind.u64.wrap (0 - 32768) = 18446744073709518848 by decide]
  simp only [if_true, cmpI]
  split
  ·rename_i h; rw [decide_eq_true]; simp; split <;> omega
  ·rename_i h; rw [Option.some.injEq, decide_eq_decide]; simp; split <;> omega
 ·rw [if_pos (by decide), show shlI .u64 1 (IntKind.u64.wrap (32 - 1)) = 2147483648 by decide, show IntKind.u64.wrap (0 - 2147483648) = 18446744071562067968 by decide]
  simp only [if_true, cmpI]
  split
  ·rename_i h; rw [decide_eq_true]; simp; split <;> omega
  ·rename_i h; rw [Option.some.injEq, decide_eq_decide]; simp; split <;> omega
theorem kinds {k : Int} (h : 1 ≤ k ∧ k ≤ 21) : k = 1 ∨ k = 2 ∨ k = 3 ∨ k = 4 ∨ k = 5 ∨ k = 6 ∨ k = 7 ∨ k = 8 ∨ k = 9 ∨ k = 10 ∨ k = 11 ∨ k = 12 ∨ k = 13 ∨ k = 14 ∨ k = 15 ∨ k = 16 ∨ k = 17 ∨ k = 18 ∨ k = 19 ∨ k = 20 ∨ k = 21 := by omega
theorem rZ (n : Int) (h : okU n) : (some (cmpI .eql n 0) : Option Bool) = some (fitsS n 0 false) := by
 have := h.1
 simp only [fitsS, Option.some.injEq, cmpI, Bool.false_eq_true, if_false]
 rw [Bool.eq_iff_iff]
 simp; omega
theorem rU (n b B : Int) (hb : IntKind.u64.wrap b = b) (h0 : 0 ≤ b) (hB : shlI .u64 1 b = B) (h2 : B = 2 ^ b.toNat) : (if decide (0 ≤ IntKind.u64.wrap b) = true then some (cmpI .lss n (shlI .u64 1 (IntKind.u64.wrap b))) else none) = some (fitsS n b false) := by
 rw [hb, if_pos (by simpa using h0), hB, h2]
 simp [fitsS, cmpI]
theorem r64 (n : Int) (h : okU n) : (some true : Option Bool) = some (fitsS n 64 false) := by
 have := h.2
 simp only [fitsS, Bool.false_eq_true, if_false]
 rw [decide_eq_true]; simpa using this
theorem r64s (n : Int) (h : okU n) : (some true : Option Bool) = some (fitsS n 64 true) := by
 have h1 := h.1
 have h2 := h.2
 unfold fitsS s64
 simp only [if_true]
 rw [decide_eq_true]
 simp
 split <;> omega
theorem ranged_eq (N : Nat) (v : SValue) (hn : okU v.N') (hk : 1 ≤ v.Kind ∧ v.Kind ≤ 21) : Fq6ranged N v = some (okNum v.Kind v.N') := by
 obtain ⟨k, n, t, is⟩ := v
 simp only at hn hk
 have z := rZ n hn
 have u8 := rU n 8 256 (by decide) (by decide) (by decide) (by decide)
 have u1 := rU n 1 2 (by decide) (by decide) (by decide) (by decide)
 have u16 := rU n 16 65536 (by decide) (by decide) (by decide) (by decide)
 have u32 := rU n 32 4294967296 (by decide) (by decide) (by decide) (by decide)
 have u64 := r64 n hn
 have s64' := r64s n hn
 have s8 := signed_eq N n 8 hn (by simp)
 have s16 := signed_eq N n 16 hn (by simp)
 have s32 := signed_eq N n 32 hn (by simp)
 have w8 : IntKind.u64.wrap (IntKind.i64.wrap (0 - -8)) = 8 := by decide
 have w16 : IntKind.u64.wrap (IntKind.i64.wrap (0 - -16)) = 16 := by decide
 have w32 : IntKind.u64.wrap (IntKind.i64.wrap (0 - -32)) = 32 := by decide
 have tr : ∀ b : Bool, (b && true) = b := by decide
 simp only [Fq6ranged, okNum]
 rcases kinds hk with rfl | rfl | rfl | rfl | rfl | rfl | rfl | rfl | rfl | rfl | rfl | rfl | rfl | rfl | rfl | rfl | rfl | rfl | rfl | rfl | rfl
 ·show _ = some (_ && true); rw [tr]; exact z
 ·show _ = some (_ && true); rw [tr]; simp only [show Fq6bits N 2 = some 1 from rfl, Option.bind_some, cond_eq]; exact u1
 ·show _ = some (_ && true); rw [tr]; simp only [show Fq6bits N 3 = some 8 from rfl, Option.bind_some, cond_eq]; exact u8
 ·show _ = some (_ && true); rw [tr]; simp only [show Fq6bits N 4 = some 16 from rfl, Option.bind_some, cond_eq]; exact u16
 ·show _ = some (_ && true); rw [tr]; simp only [show Fq6bits N 5 = some 32 from rfl, Option.bind_some, cond_eq]; exact u32
 ·show _ = some (_ && true); rw [tr]; exact u64
 ·show _ = some (_ && true); rw [tr]
  simp only [show Fq6bits N 7 = some (-8) from rfl, Option.bind_some, cond_eq, w8, s8]; rfl
 ·show _ = some (_ && true); rw [tr]
  simp only [show Fq6bits N 8 = some (-16) from rfl, Option.bind_some, cond_eq, w16, s16]; rfl
 ·show _ = some (_ && true); rw [tr]
  simp only [show Fq6bits N 9 = some (-32) from rfl, Option.bind_some, cond_eq, w32, s32]; rfl
 ·show _ = some (_ && true); rw [tr]; exact s64'
 ·show _ = some (_ && true); rw [tr]; simp only [show Fq6bits N 11 = some 32 from rfl, Option.bind_some, cond_eq]; exact u32
 ·show _ = some (_ && true); rw [tr]; exact u64
 ·show _ = some (_ && true); rw [tr]; simp only [show Fq6bits N 13 = some 32 from rfl, Option.bind_some, cond_eq]; exact u32
 ·show _ = some (_ && true); rw [tr]; exact u64
 ·show _ = some (_ && true); rw [tr]; exact z
 ·show _ = some (_ && charS n)
  have e : Fq6char N n = some (charS n) := by
   unfold Fq6char charS
   simp only [cond_eq, leq_t, lss_t]
   split
   ·split
    ·rw [decide_eq_true (by omega)]
    ·simp only [cmpI, Option.some.injEq, decide_eq_decide]; omega
   ·rw [decide_eq_false (by omega)]
  simp only [show Fq6bits N 16 = some 32 from rfl, Option.bind_some, e]
  show some (charS n) = _
  have h0 := hn.1
  cases hc : charS n with
  | false => rw [Bool.and_false]
  | true =>
   rw [Bool.and_true]
   unfold charS at hc
   simp only [decide_eq_true_eq] at hc
   simp only [show bitsS 16 = (32, false) from rfl, fitsS, Bool.false_eq_true, if_false]
   rw [decide_eq_true]
   simp; omega
 ·show _ = some (_ && true); rw [tr]; exact s64'
 ·show _ = some (_ && true); rw [tr]; exact z
 ·show _ = some (_ && true); rw [tr]; exact z
 ·show _ = some (_ && true); rw [tr]; exact z
 ·show _ = some (_ && true); rw [tr]; exact z
theorem texts_eq (N : Nat) (k : Int) (h : k ≤ 21) : Fq6texts N k = some (textS k) := by
 unfold Fq6texts textS
 simp only [cond_eq, eql_t, geq_t]
 split
 ·rename_i h1; simp [h1]
 split
 ·simp only [cmpI, Option.some.injEq, decide_eq_decide]; omega
 ·rw [decide_eq_false (by omega)]
theorem rows_gt (v : SValue) : (((SValue.rows v.Items).length : Int) > 0) = (v.Items ≠ []) := by
 rw [rowsV_len]
 apply propext
 cases v.Items <;> simp
theorem refCheck_eq (N : Nat) (v : SValue) (hn : okU v.N') (h : v.Text.length < N) (hb : v.Text.length < 4611686018427387000) : Fq6Check N v = some (checkS v) := by
 simp only [Fq6Check, cond_eq, eql_t, lss_t, gtr_t, neq_t, cmpS_neq, utf8_eq N v.Text hb h, ascii_eq N v.Text hb h, rows_gt, Option.bind_some]
 have e3 : ((v.Text.length : Int) ≠ 16) = (v.Text.length ≠ 16) := by apply propext; omega
 have e4 : ((1048576 : Int) < v.Text.length) = (1048576 < v.Text.length) := by apply propext; omega
 have e4' : ((v.Text.length : Int) > 1048576) = (1048576 < v.Text.length) := by apply propext; omega
 simp only [e3, e4, gt_iff_lt]
 unfold checkS
 by_cases h1 : v.Kind < 1
 ·rw [if_pos (show v.Kind < 1 ∨ 21 < v.Kind from .inl h1), if_neg (show ¬ v.Kind = 15 by omega), if_pos h1]
 by_cases h2 : 21 < v.Kind
 ·rw [if_pos (show v.Kind < 1 ∨ 21 < v.Kind from .inr h2), if_neg (show ¬ v.Kind = 15 by omega), if_neg h1, if_pos h2]
 rw [if_neg (show ¬ (v.Kind < 1 ∨ 21 < v.Kind) by omega)]
 simp only [h1, h2, if_false, ranged_eq N v hn (show 1 ≤ v.Kind ∧ v.Kind ≤ 21 by omega), texts_eq N v.Kind (show v.Kind ≤ 21 by omega), Option.bind_some]
 cases ho : okNum v.Kind v.N' with
 | false => simp
 | true =>
  simp only [Bool.not_true, Bool.false_eq_true, if_false, Bool.true_eq_false, false_or]
  by_cases hi : v.Items = []
  ·simp only [hi, ne_eq, not_true_eq_false, if_false]
   by_cases h15 : v.Kind = 15
   ·have ht : textS 15 = true := rfl
    simp only [ht, h15, if_true, Bool.not_true, Bool.false_eq_true, if_false, Bool.true_eq_false, true_or, true_and, show ¬ ((15 : Int) = 20) by decide, show ¬ ((15 : Int) = 21) by decide, textE]
    by_cases hl : v.Text.length = 16 <;> simp [hl]
   ·by_cases h18 : v.Kind = 18
    ·have ht : textS 18 = true := rfl
     simp only [ht, h18, if_true, Bool.not_true, Bool.false_eq_true, if_false, Bool.true_eq_false, or_true, true_and, show ¬ ((18 : Int) = 20) by decide, show ¬ ((18 : Int) = 21) by decide, show ¬ ((18 : Int) = 15) by decide, textE]
     by_cases hl : v.Text.length = 16 <;> simp [hl]
    ·by_cases h20 : v.Kind = 20
     ·have ht : textS 20 = true := rfl
      simp only [ht, h20, if_true, Bool.not_true, Bool.false_eq_true, if_false, Bool.true_eq_false, show ¬ ((20 : Int) = 18) by decide, show ¬ ((20 : Int) = 21) by decide, show ¬ ((20 : Int) = 15) by decide, textE, or_self, false_and]
      cases validF v.Text <;> split <;> simp_all
     ·by_cases h21 : v.Kind = 21
      ·have ht : textS 21 = true := rfl
       simp only [ht, h21, if_true, Bool.not_true, Bool.false_eq_true, if_false, Bool.true_eq_false, show ¬ ((21 : Int) = 18) by decide, show ¬ ((21 : Int) = 20) by decide, show ¬ ((21 : Int) = 15) by decide, textE, or_self, false_and]
       cases asciiF v.Text <;> split <;> simp_all
      ·simp only [h15, h18, h20, h21, if_false, or_self, false_and, textE]
       cases ht : textS v.Kind with
       | false =>
        simp only [Bool.not_false, if_true]
        by_cases htt : v.Text = [] <;> simp [htt]
       | true =>
        simp only [Bool.not_true, Bool.false_eq_true, if_false, Bool.true_eq_false]
        split <;> rfl
  ·simp [hi]
end
end Go.Av
namespace Go.Av
noncomputable section
open Go.Proofs
set_option maxRecDepth 100000
/-! the narrow constructors -/
def narrowB (k : Nat) : Bool := (tabAt k).2.2.2.2 || (tabAt k).2.2.2.1 || !decide ((tabAt k).2.2.1 = 1) || decide (((tabAt k).1 = 80 ∧ (tabAt k).2.1 = 3) ∨ ((tabAt k).1 = 81 ∧ (tabAt k).2.1 = 7) ∨ ((tabAt k).1 = 82 ∧ (tabAt k).2.1 = 5) ∨ ((tabAt k).1 = 83 ∧ (tabAt k).2.1 = 6) ∨ ((tabAt k).1 = 84 ∧ (tabAt k).2.1 = 9) ∨ ((tabAt k).1 = 85 ∧ (tabAt k).2.1 = 10) ∨ ((tabAt k).1 = 86 ∧ (tabAt k).2.1 = 2))
theorem narrow_all : ((List.range 40).all narrowB) = true := by decide +kernel
def k17B (k : Nat) : Bool := decide ((tabAt k).2.1 = 17 → (tabAt k).2.2.1 = 8)
theorem k17_all : ((List.range 40).all k17B) = true := by decide +kernel
theorem row_of {P : Int × Int × Int × Bool × Bool → Prop} {B : Nat → Bool} (hB : ((List.range 40).all B) = true) (hP : ∀ k, B k = true → P (tabAt k)) {code : Int} (h : ofB code = true) : P (ofT code) := by
 have h1 : bsI code < 40 ∧ codeAt (bsI code) = code := by simpa [ofB] using h
 have := List.all_eq_true.1 hB (bsI code) (by simpa using h1.1)
 have e : ofT code = tabAt (bsI code) := by unfold ofT; rw [if_pos h]
 rw [e]; exact hP _ this
theorem narrow {code : Int} (h : ofB code = true) (hi : (ofS code).Items = false) (hs : (ofS code).Sized = false) (hw : (ofS code).Width = 1) :
  (code = 80 ∧ (ofS code).Kind = 3) ∨ (code = 81 ∧ (ofS code).Kind = 7) ∨ (code = 82 ∧ (ofS code).Kind = 5) ∨ (code = 83 ∧ (ofS code).Kind = 6) ∨ (code = 84 ∧ (ofS code).Kind = 9) ∨ (code = 85 ∧ (ofS code).Kind = 10) ∨ (code = 86 ∧ (ofS code).Kind = 2) := by
 have hc := (well code h).code
 have := row_of (P := fun t => t.2.2.2.2 = false → t.2.2.2.1 = false → t.2.2.1 = 1 → (t.1 = 80 ∧ t.2.1 = 3) ∨ (t.1 = 81 ∧ t.2.1 = 7) ∨ (t.1 = 82 ∧ t.2.1 = 5) ∨ (t.1 = 83 ∧ t.2.1 = 6) ∨ (t.1 = 84 ∧ t.2.1 = 9) ∨ (t.1 = 85 ∧ t.2.1 = 10) ∨ (t.1 = 86 ∧ t.2.1 = 2)) narrow_all (fun k hk h1 h2 h3 => by
  simp only [narrowB, h1, h2, h3, Bool.false_or, decide_true, Bool.not_true, decide_eq_true_eq] at hk
  exact hk) h
 have h2 := this hi hs hw
 have hc' : (ofT code).1 = code := hc
 rw [hc'] at h2
 exact h2
theorem time8 {code : Int} (h : ofB code = true) (hk : (ofS code).Kind = 17) : (ofS code).Width = 8 :=
 row_of (P := fun t => t.2.1 = 17 → t.2.2.1 = 8) k17_all (fun _k hk => of_decide_eq_true hk) h hk
theorem Num_L0 (N : Nat) (s : List UInt8) (hl : s.length ≤ 8) : ∀ (k i : Nat), i ≤ s.length → s.length - i < k → Fq6Number_L0 N s k (numB (s.take i) : Nat) (i : Int) = some ((numB s : Nat) : Int)
 | 0, i, h, h2 => by omega
 | k + 1, i, h, h2 => by
  simp only [Fq6Number_L0, cond_eq, lss_t]
  by_cases hi : i < s.length
  ·rw [if_pos (by omega), idx_nat, List.getElem?_eq_getElem hi]
   simp only [Option.bind_some]
   have h3 := numB_lt (s.take i)
   have h4 : 256 ^ (s.take i).length ≤ 256 ^ 7 := Nat.pow_le_pow_right (by omega) (by rw [List.length_take]; omega)
   have h5 : (256 : Nat) ^ 7 = 72057594037927936 := rfl
   rw [oGet_step _ _ (by omega) s[i].toNat_lt, ← numB_take s i hi, wrap64 _ (by omega)]
   exact_mod_cast Num_L0 N s hl k (i + 1) (by omega) (by omega)
  ·rw [if_neg (by omega), List.take_of_length_le (by omega)]
theorem Num_eq (N : Nat) (s : List UInt8) (hl : s.length ≤ 8) (hN : 10 < N) : Fq6Number N s = some ((numB s : Nat) : Int) := by
 unfold Fq6Number
 exact Num_L0 N s hl N 0 (by omega) (by omega)
end
end Go.Av
namespace Go.Av
noncomputable section
open Go.Proofs
set_option maxRecDepth 100000
theorem refBits_pos (N : Nat) (k : Int) (h : (bitsS k).2 = false) : ∃ b, Fq6bits N k = some b ∧ ¬ b < 0 ∧ k ≠ 10 := by
 by_cases hk : 1 ≤ k ∧ k ≤ 21
 ·rcases kinds hk with rfl | rfl | rfl | rfl | rfl | rfl | rfl | rfl | rfl | rfl | rfl | rfl | rfl | rfl | rfl | rfl | rfl | rfl | rfl | rfl | rfl <;>
   first | (exact absurd h (by decide)) | exact ⟨_, rfl, by decide, by decide⟩
 ·refine ⟨0, ?_, by decide, by omega⟩
  unfold Fq6bits
  simp only [cond_eq, eql_t]
  simp only [show ¬ k = 2 by omega, show ¬ k = 3 by omega, show ¬ k = 4 by omega, show ¬ k = 5 by omega, show ¬ k = 11 by omega, show ¬ k = 13 by omega, show ¬ k = 16 by omega, show ¬ k = 6 by omega, show ¬ k = 12 by omega, show ¬ k = 14 by omega, show ¬ k = 17 by omega, show ¬ k = 10 by omega, show ¬ k = 7 by omega, show ¬ k = 8 by omega, show ¬ k = 9 by omega, if_false]
theorem refBits_neg (N : Nat) (k : Int) (h : (bitsS k).2 = true) : (∃ b, Fq6bits N k = some b ∧ b < 0) ∨ (∃ b, Fq6bits N k = some b ∧ ¬ b < 0 ∧ (k = 10 ∨ k = 17)) := by
 by_cases hk : 1 ≤ k ∧ k ≤ 21
 ·rcases kinds hk with rfl | rfl | rfl | rfl | rfl | rfl | rfl | rfl | rfl | rfl | rfl | rfl | rfl | rfl | rfl | rfl | rfl | rfl | rfl | rfl | rfl <;>
   first | (exact absurd h (by decide)) | exact .inl ⟨_, rfl, by decide⟩ | exact .inr ⟨_, rfl, by decide, by decide⟩
 ·exfalso
  unfold bitsS at h
  simp only [show ¬ k = 2 by omega, show ¬ k = 3 by omega, show ¬ k = 4 by omega, show ¬ k = 5 by omega, show ¬ k = 11 by omega, show ¬ k = 13 by omega, show ¬ k = 16 by omega, show ¬ k = 6 by omega, show ¬ k = 12 by omega, show ¬ k = 14 by omega, show ¬ k = 17 by omega, show ¬ k = 10 by omega, show ¬ k = 7 by omega, show ¬ k = 8 by omega, show ¬ k = 9 by omega, if_false, or_self] at h
  cases h
theorem whole_s (c : SCtor) (n w : Nat) (hw : c.Width = w) (hh : w = 1 ∨ w = 2 ∨ w = 4 ∨ w = 8) (hn : n < 256 ^ w) (hs : (bitsS c.Kind).2 = true) :
  (if decide (0 ≤ (IntKind.wrap .u64 (IntKind.wrap .i64 ((IntKind.wrap .i64 (8 * (w : Int))) - 1)))) = true then (if (n : Int) ≥ shlI .u64 1 (IntKind.wrap .u64 (IntKind.wrap .i64 ((IntKind.wrap .i64 (8 * (w : Int))) - 1))) then
   some (IntKind.wrap .u64 ((IntKind.wrap .u64 ((n : Int) - (shlI .u64 1 (IntKind.wrap .u64 (IntKind.wrap .i64 ((IntKind.wrap .i64 (8 * (w : Int))) - 1)))))) - (shlI .u64 1 (IntKind.wrap .u64 (IntKind.wrap .i64 ((IntKind.wrap .i64 (8 * (w : Int))) - 1)))))) else some (n : Int)) else none) = some (widenS c n) := by
 unfold widenS
 simp only [hs, true_and, hw]
 rcases hh with rfl | rfl | rfl | rfl
 ·rw [if_pos (by decide), show shlI .u64 1 (IntKind.wrap .u64 (IntKind.wrap .i64 ((IntKind.wrap .i64 (8 * ((1 : Nat) : Int))) - 1))) = 128 by decide]
  simp only [wrapU]
  simp at hn ⊢
  split <;> simp <;> omega
 ·rw [if_pos (by decide), show shlI .u64 1 (IntKind.wrap .u64 (IntKind.wrap .i64 ((IntKind.wrap .i64 (8 * ((2 : Nat) : Int))) - 1))) = 32768 by decide]
  simp only [wrapU]
  simp at hn ⊢
  split <;> simp <;> omega
 ·rw [if_pos (by decide), show shlI .u64 1 (IntKind.wrap .u64 (IntKind.wrap .i64 ((IntKind.wrap .i64 (8 * ((4 : Nat) : Int))) - 1))) = 2147483648 by decide]
  simp only [wrapU]
  simp at hn ⊢
  split <;> simp <;> omega
 ·rw [if_pos (by decide), show shlI .u64 1 (IntKind.wrap .u64 (IntKind.wrap .i64 ((IntKind.wrap .i64 (8 * ((8 : Nat) : Int))) - 1))) = 9223372036854775808 by decide]
  simp only [wrapU]
  simp at hn ⊢
  intro; omega
theorem whole_eq (N : Nat) (c : SCtor) (n w : Nat) (hw : c.Width = w) (hh : w = 1 ∨ w = 2 ∨ w = 4 ∨ w = 8) (hn : n < 256 ^ w) (h17 : c.Kind = 17 → w = 8) : Fq6whole N (n : Int) c.Kind (w : Int) = some (widenS c n) := by
 simp only [Fq6whole, cond_eq, lss_t, eql_t, geq_t]
 cases hs : (bitsS c.Kind).2 with
 | false =>
  obtain ⟨b, hb, hb0, h10⟩ := refBits_pos N c.Kind hs
  rw [hb]
  simp only [Option.bind_some]
  rw [if_neg hb0, if_neg h10]
  unfold widenS
  rw [if_neg (by simp [hs])]
 | true =>
  rcases refBits_neg N c.Kind hs with ⟨b, hb, hb0⟩ | ⟨b, hb, hb0, hk⟩
  ·rw [hb]
   simp only [Option.bind_some]
   rw [if_pos hb0]
   exact whole_s c n w hw hh hn hs
  ·rw [hb]
   simp only [Option.bind_some]
   rw [if_neg hb0]
   rcases hk with hk | hk
   ·rw [if_pos hk]
    exact whole_s c n w hw hh hn hs
   ·rw [if_neg (by omega)]
    have h8 := h17 hk
    subst h8
    unfold widenS
    simp only [hs, true_and, hw]
    simp
theorem fin_if2 (k : Int) (v : SValue) (n : Int) : (if k = 2 then some ((⟨0, 0, [], []⟩ : SValue), (0 : Int), (5 : Int)) else if k ≠ 0 then some (⟨0, 0, [], []⟩, 0, k) else some (v, n, 0)) = some (if k = 0 then (v, n, 0) else (zeroV, 0, if k = 2 then 5 else k)) := by
 by_cases h2 : k = 2
 ·subst h2; rfl
 ·rw [if_neg h2]
  by_cases h0 : k = 0
  ·rw [if_neg (show ¬ (k ≠ 0) by simp [h0]), if_pos h0]
  ·rw [if_pos (show k ≠ 0 from h0), if_neg h0, if_neg h2]; rfl
theorem refGet_eq (N : Nat) (code : Int) (s : List UInt8) (hs : s.length < 4611686018427387000) (h : s.length < N) (hN : 50 < N) : Fq6Get N code s = some (getS code s) := by
 have hck : ∀ v : SValue, okU v.N' → v.Text.length ≤ s.length → Fq6Check N v = some (checkS v) := fun v h1 h2 => refCheck_eq N v h1 (by omega) (by omega)
 simp only [Fq6Get, refOf_eq N code hN, Option.bind_some, cond_eq, lss_t, gtr_t, eql_t, neq_t, getS]
 cases hb : ofB code with
 | false => simp only [Bool.not_false, if_true, true_or]; rfl
 | true =>
  have hw := well code hb
  have ht8 := time8 hb
  have hcd := hw.code
  simp only [Bool.not_true, Bool.false_eq_true, if_false, Bool.true_eq_false, false_or]
  cases hi : (ofS code).Items with
  | true => rfl
  | false =>
   simp only [Bool.false_eq_true, if_false]
   rw [← hcd]
   rw [hcd]
   generalize hc0 : ofS code = c at *
   by_cases hl : (s.length : Int) < c.Width
   ·rw [if_pos hl, if_pos hl]; rfl
   rw [if_neg hl, if_neg hl]
   cases hw.shape hi with
   | sized w hsz hw' h12 hk hc =>
    simp only [hsz, hw', if_true, Int.toNat_natCast]
    have hlw : w ≤ s.length := by omega
    rw [if_pos (by simp), if_pos (by simp [Nat.ble_eq]; omega), List.drop_zero, Num_eq N _ (by rw [List.length_take]; omega) (by omega)]
    simp only [Option.bind_some]
    have hlt := numB_lt (s.take w)
    have h4 : 256 ^ (s.take w).length ≤ 256 ^ 4 := Nat.pow_le_pow_right (by omega) (by rw [List.length_take]; omega)
    have h5 : (256 : Nat) ^ 4 = 4294967296 := rfl
    generalize hm : numB (s.take w) = m at *
    have e1 : IntKind.u64.wrap (IntKind.i64.wrap ((s.length : Int) - (w : Int))) = ((s.length - w : Nat) : Int) := by
     rw [wrap64 _ (by omega), show ((s.length : Int) - (w : Int)) = ((s.length - w : Nat) : Int) by omega, wrapLen _ (by omega)]
    rw [e1]
    by_cases h6 : s.length - w < m
    ·rw [if_pos (by omega), if_pos h6]; rfl
    ·rw [if_neg (by omega), if_neg h6]
     have e2 : IntKind.i64.wrap ((w : Int) + IntKind.i64.wrap (m : Int)) = ((w + m : Nat) : Int) := by
      rw [wrap64 (m : Int) (by omega), wrap64 _ (by omega)]; push_cast; rfl
     rw [e2]
     simp only [Int.toNat_natCast]
     rw [if_pos (by simp; omega), if_pos (by simp [Nat.ble_eq]; omega)]
     rw [show (s.take (w + m)).drop w = (s.drop w).take m by rw [List.drop_take]; congr 1; omega]
     rw [hck _ okU0 (by simp only [List.length_take, List.length_drop]; omega)]
     simp only [Option.bind_some]
     rw [fin_if2]
     unfold finS
     rw [show ((w + m : Nat) : Int) = (w : Int) + (m : Int) by push_cast; rfl]
   | wide hsz hw' hk hc =>
    simp only [hsz, hw', Bool.false_eq_true, if_false, if_true]
    rw [if_pos (by simp [Nat.ble_eq]; omega), List.drop_zero, hck _ okU0 (by simp only [List.length_take]; omega)]
    simp only [Option.bind_some]
    rw [fin_if2]
    rfl
   | num w hsz hw' hh ht hc hbb =>
    simp only [hsz, hw', Bool.false_eq_true, if_false, Int.toNat_natCast]
    rw [if_neg (show ¬ ((w : Int) = 16) by omega), if_neg (show ¬ ((w : Int) = 16) by omega)]
    by_cases h65 : code = 65
    ·obtain ⟨rfl, hk2⟩ := hc (by rw [hcd]; exact h65)
     rw [if_pos h65, if_pos (show c.Code = 65 by rw [hcd]; exact h65), hck _ okU1 (by simp)]
     simp only [Option.bind_some]
     rw [fin_if2]
     rfl
    ·rw [if_neg h65, if_neg (show ¬ c.Code = 65 by rw [hcd]; exact h65)]
     have hlw : w ≤ s.length := by omega
     rcases hh with rfl | hh
     ·rw [if_neg (by omega), hck _ okU0 (by simp)]
      simp only [Option.bind_some]
      have e0 : widenS c (numB (s.take 0) : Nat) = 0 := by
       unfold widenS
       rw [if_neg (by omega)]; rfl
      rw [fin_if2, e0]
      rfl
     ·have hlt := numB_lt (s.take w)
      rw [List.length_take, Nat.min_eq_left hlw] at hlt
      rw [if_pos (by omega), if_pos (by simp), if_pos (by simp [Nat.ble_eq]; omega), List.drop_zero, Num_eq N _ (by rw [List.length_take]; omega) (by omega)]
      simp only [Option.bind_some]
      rw [whole_eq N c _ w hw' hh hlt (fun hk => by have := ht8 hk; omega)]
      simp only [Option.bind_some]
      rw [hck _ (widen_mod hw' hh hlt).1 (by simp)]
      simp only [Option.bind_some]
      rw [fin_if2]
      rfl
end
end Go.Av
namespace Go.Av
noncomputable section
open Go.Proofs
set_option maxRecDepth 100000
/-! layer 17: depth, count, sameness, likeness, keys, validity -/
theorem ind_sz {P : SValue → Prop} (h : ∀ v, (∀ x ∈ v.Items, P x) → P v) : ∀ (n : Nat) (v : SValue), v.sz ≤ n → P v
 | 0, v, hn => by have := v.sz_eq; omega
 | n + 1, v, hn => h v (fun x hx => ind_sz h n x (by have := v.sz_eq; have := SValue.szs_mem _ x hx; omega))
theorem SValue.ind {P : SValue → Prop} (h : ∀ v, (∀ x ∈ v.Items, P x) → P v) (v : SValue) : P v := ind_sz h v.sz v (Nat.le_refl _)
mutual
def SValue.dep : SValue → Nat
 | .mk k _ _ is => if is.length = 0 ∧ (k < 22 ∨ 25 < k) then 0 else SValue.deps is + 1
def SValue.deps : List SValue → Nat
 | [] => 0
 | v :: l => Nat.max v.dep (SValue.deps l)
end
theorem SValue.dep_eq (v : SValue) : v.dep = if v.Items.length = 0 ∧ (v.Kind < 22 ∨ 25 < v.Kind) then 0 else SValue.deps v.Items + 1 := by cases v; simp only [SValue.dep]
theorem SValue.dep_sz (v : SValue) : v.dep ≤ v.sz := by
 induction v using SValue.ind with
 | h v ih =>
  have hl : ∀ l : List SValue, (∀ x ∈ l, x.dep ≤ x.sz) → SValue.deps l ≤ SValue.szs l := by
   intro l hl
   induction l with
   | nil => simp [SValue.deps]
   | cons x l ihl =>
    have h1 := hl x (.head _)
    have h2 := ihl (fun y hy => hl y (.tail _ hy))
    simp only [SValue.deps, SValue.szs]
    exact Nat.max_le.2 ⟨by omega, by omega⟩
  rw [v.dep_eq, v.sz_eq]
  have := hl v.Items ih
  split <;> omega
theorem deps_app (l : List SValue) (x : SValue) : SValue.deps (l ++ [x]) = Nat.max (SValue.deps l) x.dep := by
 induction l with
 | nil => simp [SValue.deps]
 | cons y l ih => rw [List.cons_append, SValue.deps, ih, SValue.deps]; exact (Nat.max_assoc _ _ _).symm
theorem Depth_L0 {R : SValue → Option Int} {N : Nat} {v : SValue} (hb : v.sz < 1000000) (hR : ∀ y ∈ v.Items, R y = some (y.dep : Int)) : ∀ (n i : Nat), i ≤ v.Items.length → v.Items.length - i < n →
  BavDepth_L0 R N v n (SValue.deps (v.Items.take i) : Nat) (i : Int) = some (v.dep : Int)
 | 0, i, _, h => by omega
 | n + 1, i, hi, hn => by
  have hs := v.sz_eq
  have hl := SValue.szs_len v.Items
  simp only [BavDepth_L0, cond_eq, lss_t, eql_t, gtr_t, rowsV_len, idx_nat]
  by_cases h : i < v.Items.length
  ·rw [if_pos (by omega), List.getElem?_eq_getElem h]
   simp only [Option.bind_some, hR _ (List.getElem_mem h)]
   have e : ifB (decide ((v.Items[i].dep : Int) > (SValue.deps (v.Items.take i) : Nat))) (v.Items[i].dep : Int) (SValue.deps (v.Items.take i) : Nat) = (SValue.deps (v.Items.take (i + 1)) : Nat) := by
    rw [List.take_succ_eq_append_getElem h, deps_app]
    by_cases hc : (v.Items[i].dep : Int) > (SValue.deps (v.Items.take i) : Nat)
    ·rw [decide_eq_true hc]
     show (v.Items[i].dep : Int) = _
     rw [show Nat.max (SValue.deps (v.Items.take i)) v.Items[i].dep = v.Items[i].dep from Nat.max_eq_right (by omega)]
    ·rw [decide_eq_false hc]
     show ((SValue.deps (v.Items.take i) : Nat) : Int) = _
     rw [show Nat.max (SValue.deps (v.Items.take i)) v.Items[i].dep = SValue.deps (v.Items.take i) from Nat.max_eq_left (by omega)]
   rw [e, wrap64 _ (by omega)]
   exact_mod_cast Depth_L0 hb hR n (i + 1) (by omega) (by omega)
  ·rw [if_neg (by omega), List.take_of_length_le (by omega), v.dep_eq]
   have hd : SValue.deps v.Items ≤ v.sz := by
    have := v.dep_sz
    rw [v.dep_eq] at this
    split at this
    ·rename_i h0
     have : v.Items = [] := List.length_eq_zero_iff.1 h0.1
     rw [this]; simp [SValue.deps]
    ·omega
   by_cases h0 : v.Items.length = 0
   ·rw [if_pos (by omega)]
    by_cases h1 : v.Kind < 22
    ·rw [if_pos h1, if_pos ⟨h0, .inl h1⟩]; rfl
    ·rw [if_neg h1]
     by_cases h2 : v.Kind > 25
     ·rw [if_pos h2, if_pos ⟨h0, .inr h2⟩]; rfl
     ·rw [if_neg h2, if_neg (by omega), wrap64 _ (by omega)]; push_cast; rfl
   ·rw [if_neg (by omega), if_neg (by omega), wrap64 _ (by omega)]; push_cast; rfl
theorem Depth_eq : ∀ (N : Nat) (v : SValue), v.sz < N → v.sz < 1000000 → FavDepth N v = some (v.dep : Int)
 | 0, v, h, _ => by omega
 | N + 1, v, h, h2 => by
  have hs := v.sz_eq
  have hl := SValue.szs_len v.Items
  have := Depth_L0 (R := FavDepth N) (N := N) (v := v) h2 (fun y hy => Depth_eq N y (by have := SValue.szs_mem _ y hy; omega) (by have := SValue.szs_mem _ y hy; omega)) N 0 (by omega) (by omega)
  exact this
theorem Count_L0 {R : SValue → Option Int} {N : Nat} {v : SValue} (hb : v.sz < 1000000) (hR : ∀ y ∈ v.Items, R y = some (y.sz : Int)) : ∀ (n i : Nat), i ≤ v.Items.length → v.Items.length - i < n →
  BavCount_L0 R N v n (1 + SValue.szs (v.Items.take i) : Nat) (i : Int) = some (v.sz : Int)
 | 0, i, _, h => by omega
 | n + 1, i, hi, hn => by
  have hs := v.sz_eq
  have hl := SValue.szs_len v.Items
  simp only [BavCount_L0, cond_eq, lss_t, rowsV_len, idx_nat]
  by_cases h : i < v.Items.length
  ·rw [if_pos (by omega), List.getElem?_eq_getElem h]
   simp only [Option.bind_some, hR _ (List.getElem_mem h)]
   have e1 : SValue.szs (v.Items.take (i + 1)) = SValue.szs (v.Items.take i) + v.Items[i].sz := by
    rw [List.take_succ_eq_append_getElem h, SValue.szs_app]; simp [SValue.szs]
   have e2 : SValue.szs (v.Items.take (i + 1)) ≤ SValue.szs v.Items := by
    have := SValue.szs_app (v.Items.take (i + 1)) (v.Items.drop (i + 1))
    rw [List.take_append_drop] at this; omega
   rw [wrap64 _ (by omega), wrap64 _ (by omega)]
   have := Count_L0 (N := N) hb hR n (i + 1) (by omega) (by omega)
   rw [e1] at this
   rw [show (((1 + SValue.szs (v.Items.take i) : Nat) : Int) + (v.Items[i].sz : Int)) = ((1 + (SValue.szs (v.Items.take i) + v.Items[i].sz) : Nat) : Int) by push_cast; omega]
   exact_mod_cast this
  ·rw [if_neg (by omega), List.take_of_length_le (by omega), v.sz_eq]
theorem Count_eq : ∀ (N : Nat) (v : SValue), v.sz < N → v.sz < 1000000 → FavCount N v = some (v.sz : Int)
 | 0, v, h, _ => by omega
 | N + 1, v, h, h2 => by
  have hs := v.sz_eq
  have hl := SValue.szs_len v.Items
  have := Count_L0 (R := FavCount N) (N := N) (v := v) h2 (fun y hy => Count_eq N y (by have := SValue.szs_mem _ y hy; omega) (by have := SValue.szs_mem _ y hy; omega)) N 0 (by omega) (by omega)
  exact this
theorem Same_L0' {R : SValue → SValue → Option Bool} {N : Nat} {a b : SValue} (hlen : a.Items.length = b.Items.length) (hb : a.Items.length < 4611686018427387904)
  (hR : ∀ y ∈ a.Items, ∀ z, R y z = some (decide (y = z))) : ∀ (n i : Nat), i ≤ a.Items.length → a.Items.length - i < n →
  BavSame_L0 R N a b n (i : Int) = some (decide (a.Items.drop i = b.Items.drop i))
 | 0, i, _, h => by omega
 | n + 1, i, h1, h2 => by
  simp only [BavSame_L0, cond_eq, lss_t, rowsV_len]
  by_cases hi : i < a.Items.length
  ·rw [if_pos (by omega), idx_nat, idx_nat, List.getElem?_eq_getElem hi, List.getElem?_eq_getElem (show i < b.Items.length by omega)]
   simp only [Option.bind_some, hR _ (List.getElem_mem hi)]
   rw [wrap64 _ (by omega)]
   have ih := Same_L0' (N := N) hlen hb hR n (i + 1) (by omega) (by omega)
   rw [List.drop_eq_getElem_cons hi, List.drop_eq_getElem_cons (show i < b.Items.length by omega)]
   by_cases he : a.Items[i] = b.Items[i]
   ·rw [← he]; simp only [decide_true, Bool.not_true, Bool.false_eq_true, if_false, List.cons.injEq, true_and]
    exact_mod_cast ih
   ·have hne : ¬ (a.Items[i] :: List.drop (i + 1) a.Items = b.Items[i] :: List.drop (i + 1) b.Items) := fun e => he (List.cons.inj e).1
    simp only [he, decide_false, Bool.not_false, if_true]
    rw [decide_eq_false hne]
  ·rw [if_neg (by omega), List.drop_of_length_le (by omega), List.drop_of_length_le (by omega)]
   simp
theorem Same_eq : ∀ (N : Nat) (a b : SValue), a.sz < N → a.sz < 1000000 → FavSame N a b = some (decide (a = b))
 | 0, a, b, h, _ => by have := a.sz_eq; omega
 | N + 1, a, b, h, h2 => by
  have hs := a.sz_eq
  have hl := SValue.szs_len a.Items
  simp only [FavSame, BavSame, cond_eq, neq_t, cmpS_neq, rowsV_len]
  by_cases e1 : a.Kind = b.Kind
  ·by_cases e2 : a.N' = b.N'
   ·by_cases e3 : a.Text = b.Text
    ·by_cases e4 : a.Items.length = b.Items.length
     ·rw [if_neg (by simp [e1]), if_neg (by simp [e2]), if_neg (by simp [e3]), if_neg (by simp [e4])]
      have := Same_L0' (N := N) (R := FavSame N) e4 (by omega) (fun y hy z => Same_eq N y z (by have := SValue.szs_mem _ y hy; omega) (by have := SValue.szs_mem _ y hy; omega)) N 0 (by omega) (by omega)
      rw [show (0 : Int) = ((0 : Nat) : Int) from rfl, this]
      cases a; cases b; simp_all
     ·rw [if_neg (by simp [e1]), if_neg (by simp [e2]), if_neg (by simp [e3]), if_pos (by omega)]
      have : a ≠ b := fun e => e4 (by rw [e])
      simp [this]
    ·rw [if_neg (by simp [e1]), if_neg (by simp [e2]), if_pos (by simpa using e3)]
     have : a ≠ b := fun e => e3 (by rw [e])
     simp [this]
   ·rw [if_neg (by simp [e1]), if_pos (by simpa using e2)]
    have : a ≠ b := fun e => e2 (by rw [e])
    simp [this]
  ·rw [if_pos (by simpa using e1)]
   have : a ≠ b := fun e => e1 (by rw [e])
   simp [this]
end
end Go.Av
namespace Go.Av
noncomputable section
open Go.Proofs
set_option maxRecDepth 100000
/-! likeness of keys -/
def nnS (v : SValue) : Bool := (FavnoNumber 0 v).getD false
theorem nn_eq (N : Nat) (v : SValue) : FavnoNumber N v = some (nnS v) := by
 have h : FavnoNumber N v = FavnoNumber 0 v := rfl
 rw [h]
 unfold nnS FavnoNumber
 simp only [cond_eq]
 repeat' split
 all_goals rfl
mutual
def alikeS : SValue → SValue → Bool
 | .mk k n t is, b => decide (k = b.Kind) && (decide (t = b.Text) && (decide (is.length = b.Items.length) && ((decide (n = b.N') || (nnS ⟨k, n, t, is⟩ && nnS b)) && alikes is b.Items)))
def alikes : List SValue → List SValue → Bool
 | [], _ => true
 | x :: l, y :: m => alikeS x y && alikes l m
 | _ :: _, [] => false
end
theorem alikeS_eq (a b : SValue) : alikeS a b = (decide (a.Kind = b.Kind) && (decide (a.Text = b.Text) && (decide (a.Items.length = b.Items.length) && ((decide (a.N' = b.N') || (nnS a && nnS b)) && alikes a.Items b.Items)))) := by
 cases a; simp only [alikeS]
theorem alike_L0 {R : SValue → SValue → Option Bool} {N : Nat} {a b : SValue} (hlen : a.Items.length = b.Items.length) (hb : a.Items.length < 4611686018427387904)
  (hR : ∀ y ∈ a.Items, ∀ z, R y z = some (alikeS y z)) : ∀ (n i : Nat), i ≤ a.Items.length → a.Items.length - i < n →
  Bavalike_L0 R N a b n (i : Int) = some (alikes (a.Items.drop i) (b.Items.drop i)) ∧ Bavalike_L1 R N a b n (i : Int) = some (alikes (a.Items.drop i) (b.Items.drop i))
 | 0, i, _, h => by omega
 | n + 1, i, h1, h2 => by
  simp only [Bavalike_L0, Bavalike_L1, cond_eq, lss_t, rowsV_len]
  by_cases hi : i < a.Items.length
  ·rw [if_pos (by omega), if_pos (by omega), idx_nat, idx_nat, List.getElem?_eq_getElem hi, List.getElem?_eq_getElem (show i < b.Items.length by omega)]
   simp only [Option.bind_some, hR _ (List.getElem_mem hi)]
   rw [wrap64 _ (by omega)]
   obtain ⟨ih1, ih2⟩ := alike_L0 (N := N) hlen hb hR n (i + 1) (by omega) (by omega)
   rw [List.drop_eq_getElem_cons hi, List.drop_eq_getElem_cons (show i < b.Items.length by omega), alikes]
   cases alikeS a.Items[i] b.Items[i] with
   | true =>
    simp only [Bool.not_true, Bool.false_eq_true, if_false, Bool.true_and]
    exact ⟨by exact_mod_cast ih1, by exact_mod_cast ih2⟩
   | false => simp
  ·rw [if_neg (by omega), if_neg (by omega), List.drop_of_length_le (by omega)]
   simp [alikes]
theorem alike_eq : ∀ (N : Nat) (a b : SValue), a.sz < N → a.sz < 1000000 → Favalike N a b = some (alikeS a b)
 | 0, a, b, h, _ => by have := a.sz_eq; omega
 | N + 1, a, b, h, h2 => by
  have hs := a.sz_eq
  have hl := SValue.szs_len a.Items
  rw [alikeS_eq]
  simp only [Favalike, Bavalike, cond_eq, neq_t, cmpS_neq, rowsV_len, nn_eq, Option.bind_some]
  by_cases e1 : a.Kind = b.Kind
  ·by_cases e3 : a.Text = b.Text
   ·by_cases e4 : a.Items.length = b.Items.length
    ·rw [if_neg (by simp [e1]), if_neg (by simp [e3]), if_neg (by simp [e4])]
     obtain ⟨i1, i2⟩ := alike_L0 (N := N) (R := Favalike N) e4 (by omega) (fun y hy z => alike_eq N y z (by have := SValue.szs_mem _ y hy; omega) (by have := SValue.szs_mem _ y hy; omega)) N 0 (by omega) (by omega)
     rw [show ((0 : Nat) : Int) = 0 from rfl] at i1 i2
     rw [i1, i2, List.drop_zero, List.drop_zero]
     simp only [e1, e3, e4, decide_true, Bool.true_and]
     by_cases e2 : a.N' = b.N'
     ·simp [e2]
     ·simp only [e2, ne_eq, not_false_eq_true, if_true, decide_false, Bool.false_or]
      cases nnS a <;> cases nnS b <;> simp
    ·rw [if_neg (by simp [e1]), if_neg (by simp [e3]), if_pos (by omega)]
     simp [e4]
   ·rw [if_neg (by simp [e1]), if_pos (by simpa using e3)]
    simp [e3]
  ·rw [if_pos (by simpa using e1)]
   simp [e1]
def AL (v : SValue) (i j : Nat) : Prop := ∃ x y, v.Items[i]? = some x ∧ v.Items[j]? = some y ∧ alikeS x y = true
open Classical in
noncomputable def keysS (v : SValue) : Int := if v.Kind ≠ 23 then 0 else if ∃ i j, 2 ≤ i ∧ i % 2 = 0 ∧ i < v.Items.length ∧ j < i ∧ j % 2 = 0 ∧ AL v i j then 16 else 0
open Classical in
theorem keys_L1 {N : Nat} {v : SValue} (hb : v.sz < 1000000) (hN : v.sz < N) {k0 : Int → Option Int} {i : Nat} (hi : i < v.Items.length) (i2 : i % 2 = 0) : ∀ (n k : Nat), i - k < n → k % 2 = 0 → k ≤ i →
  Favkeys_L1 N k0 v (i : Int) n (k : Int) = if ∃ j, k ≤ j ∧ j < i ∧ j % 2 = 0 ∧ AL v i j then some 16 else k0 ((i + 2 : Nat) : Int)
 | 0, k, h, _, _ => by omega
 | n + 1, k, h, hk, hki => by
  have hs := v.sz_eq
  have hl := SValue.szs_len v.Items
  simp only [Favkeys_L1, cond_eq, lss_t, idx_nat]
  by_cases hlt : k < i
  ·rw [if_pos (by omega), List.getElem?_eq_getElem hi, List.getElem?_eq_getElem (show k < v.Items.length by omega)]
   simp only [Option.bind_some]
   have hsz := SValue.szs_mem _ _ (List.getElem_mem hi)
   rw [alike_eq N _ _ (by omega) (by omega)]
   simp only [Option.bind_some]
   cases hal : alikeS v.Items[i] v.Items[k] with
   | true =>
    rw [if_pos rfl, if_pos ⟨k, Nat.le_refl _, hlt, hk, _, _, List.getElem?_eq_getElem hi, List.getElem?_eq_getElem (by omega), hal⟩]
   | false =>
    rw [if_neg (by simp), wrap64 _ (by omega)]
    have := keys_L1 (k0 := k0) hb hN hi i2 n (k + 2) (by omega) (by omega) (by omega)
    rw [show ((k : Int) + 2) = ((k + 2 : Nat) : Int) by push_cast; rfl, this]
    by_cases hx : ∃ j, k + 2 ≤ j ∧ j < i ∧ j % 2 = 0 ∧ AL v i j
    ·rw [if_pos hx]
     obtain ⟨j, j1, j2, j3, j4⟩ := hx
     rw [if_pos ⟨j, by omega, j2, j3, j4⟩]
    ·rw [if_neg hx, if_neg]
     rintro ⟨j, j1, j2, j3, j4⟩
     by_cases hjk : j = k
     ·subst hjk
      obtain ⟨x, y, x1, y1, z1⟩ := j4
      rw [List.getElem?_eq_getElem hi] at x1
      rw [List.getElem?_eq_getElem (by omega)] at y1
      cases x1; cases y1
      rw [hal] at z1; cases z1
     ·exact hx ⟨j, by omega, j2, j3, j4⟩
  ·rw [if_neg (by omega), wrap64 _ (by omega), if_neg (by rintro ⟨j, j1, j2, _⟩; omega)]
   push_cast; rfl
open Classical in
theorem keys_L0 {N : Nat} {v : SValue} (hb : v.sz < 1000000) (hN : v.sz < N) : ∀ (n i : Nat), v.Items.length - i < n → i % 2 = 0 → i ≤ v.Items.length + 2 →
  Favkeys_L0 N v n (i : Int) = some (if ∃ i' j, i ≤ i' ∧ i' % 2 = 0 ∧ i' < v.Items.length ∧ j < i' ∧ j % 2 = 0 ∧ AL v i' j then 16 else 0)
 | 0, i, h, _, _ => by omega
 | n + 1, i, h, hi, hle => by
  have hs := v.sz_eq
  have hl := SValue.szs_len v.Items
  simp only [Favkeys_L0, cond_eq, lss_t, rowsV_len]
  by_cases hlt : i < v.Items.length
  ·rw [if_pos (by omega)]
   have h1 := keys_L1 (N := N) (k0 := Favkeys_L0 N v n) hb hN hlt hi N 0 (by omega) (by omega) (by omega)
   rw [show ((0 : Nat) : Int) = 0 from rfl] at h1
   rw [h1]
   by_cases hx : ∃ j, 0 ≤ j ∧ j < i ∧ j % 2 = 0 ∧ AL v i j
   ·rw [if_pos hx]
    obtain ⟨j, _, j2, j3, j4⟩ := hx
    rw [if_pos ⟨i, j, Nat.le_refl _, hi, hlt, j2, j3, j4⟩]
   ·rw [if_neg hx, keys_L0 hb hN n (i + 2) (by omega) (by omega) (by omega)]
    by_cases hy : ∃ i' j, i + 2 ≤ i' ∧ i' % 2 = 0 ∧ i' < v.Items.length ∧ j < i' ∧ j % 2 = 0 ∧ AL v i' j
    ·rw [if_pos hy]
     obtain ⟨i', j, a1, a2, a3⟩ := hy
     rw [if_pos ⟨i', j, by omega, a2, a3⟩]
    ·rw [if_neg hy, if_neg]
     rintro ⟨i', j, a1, a2, a3, a4, a5, a6⟩
     by_cases he : i' = i
     ·subst he; exact hx ⟨j, by omega, a4, a5, a6⟩
     ·exact hy ⟨i', j, by omega, a2, a3, a4, a5, a6⟩
  ·rw [if_neg (by omega), if_neg]
   rintro ⟨i', j, a1, a2, a3, _⟩; omega
theorem keys_eq (N : Nat) (v : SValue) (hb : v.sz < 1000000) (hN : v.sz + 5 < N) : Favkeys N v = some (keysS v) := by
 have hs := v.sz_eq
 have hl := SValue.szs_len v.Items
 simp only [Favkeys, cond_eq, neq_t, keysS]
 by_cases h : v.Kind ≠ 23
 ·rw [if_pos h, if_pos h]
 ·rw [if_neg h, if_neg h]
  exact keys_L0 hb (by omega) N 2 (by omega) (by omega) (by omega)
/-! validity -/
def shapedS (v : SValue) : Bool := (Favshaped 0 v).getD false
theorem shaped_eq (N : Nat) (v : SValue) : Favshaped N v = some (shapedS v) := by
 have h : Favshaped N v = Favshaped 0 v := rfl
 rw [h]
 unfold shapedS Favshaped
 simp only [cond_eq]
 repeat' split
 all_goals rfl
mutual
noncomputable def checkV : SValue → Int → Int
 | .mk k n t is, m => if k < 1 then 8 else if 25 < k then 8 else if k ≤ 21 then checkS ⟨k, n, t, is⟩ else if m = 0 then 14 else if shapedS ⟨k, n, t, is⟩ = false then 2 else if 1000 < is.length then 4 else checkVs is k n (m - 1) (keysS ⟨k, n, t, is⟩)
noncomputable def checkVs : List SValue → Int → Int → Int → Int → Int
 | [], _, _, _, e => e
 | x :: l, k, n, m, e => if k = 24 ∧ IntKind.u64.wrap x.Kind ≠ n then 8 else if checkV x m ≠ 0 then checkV x m else checkVs l k n m e
end
theorem checkV_eq (v : SValue) (m : Int) : checkV v m = if v.Kind < 1 then 8 else if 25 < v.Kind then 8 else if v.Kind ≤ 21 then checkS v else if m = 0 then 14 else if shapedS v = false then 2 else if 1000 < v.Items.length then 4 else checkVs v.Items v.Kind v.N' (m - 1) (keysS v) := by
 cases v; simp only [checkV]
inductive Fine : SValue → Prop
 | mk (v : SValue) (hn : okU v.N') (ht : v.Text.length ≤ 400) (hi : ∀ x ∈ v.Items, Fine x) : Fine v
theorem Fine.num {v : SValue} (h : Fine v) : okU v.N' := by cases h; assumption
theorem Fine.text {v : SValue} (h : Fine v) : v.Text.length ≤ 400 := by cases h; assumption
theorem Fine.items {v : SValue} (h : Fine v) : ∀ x ∈ v.Items, Fine x := by cases h; assumption
theorem txts_mem : ∀ (l : List SValue), SValue.txts l → ∀ x ∈ l, x.txt
 | v :: l, h, x, hx => by
  simp only [SValue.txts] at h
  rcases List.mem_cons.1 hx with rfl | hx
  ·exact h.1
  ·exact txts_mem l h.2 x hx
theorem fine_of (v : SValue) (hv : OkV v) (ht : v.txt) : Fine v := by
 induction v using SValue.ind with
 | h v ih =>
  rw [SValue.txt_eq] at ht
  exact .mk v hv.num ht.1 (fun x hx => ih x hx (hv.items x hx) (txts_mem _ ht.2 x hx))
theorem Check1_L0 {R : SValue → Int → Option Int} {N : Nat} {v : SValue} {m : Int} (hb : v.sz < 1000000) (hN : v.sz + 5 < N) (hm : 1 ≤ m ∧ m ≤ 32) (hR : ∀ y ∈ v.Items, R y (m - 1) = some (checkV y (m - 1))) : ∀ (n i : Nat), i ≤ v.Items.length → v.Items.length - i < n →
  BavCheck_1_L0 R N v m n (i : Int) = some (checkVs (v.Items.drop i) v.Kind v.N' (m - 1) (keysS v))
 | 0, i, _, h => by omega
 | n + 1, i, hi, hn => by
  have hs := v.sz_eq
  have hl := SValue.szs_len v.Items
  simp only [BavCheck_1_L0, cond_eq, lss_t, eql_t, neq_t, rowsV_len, idx_nat, wrap64 (m - 1) (show _ by omega), keys_eq N v hb hN, Option.bind_some]
  by_cases h : i < v.Items.length
  ·rw [if_pos (by omega), List.getElem?_eq_getElem h, List.drop_eq_getElem_cons h, checkVs]
   simp only [Option.bind_some, hR _ (List.getElem_mem h)]
   rw [wrap64 _ (by omega)]
   have ih := Check1_L0 (N := N) hb hN hm hR n (i + 1) (by omega) (by omega)
   rw [show ((i : Int) + 1) = ((i + 1 : Nat) : Int) by push_cast; rfl, ih]
   by_cases h24 : v.Kind = 24
   ·rw [if_pos h24]
    by_cases hw : IntKind.u64.wrap v.Items[i].Kind ≠ v.N'
    ·rw [if_pos hw, if_pos ⟨h24, hw⟩]
    ·rw [if_neg hw, if_neg (show ¬ (v.Kind = 24 ∧ IntKind.u64.wrap v.Items[i].Kind ≠ v.N') from fun hh => hw hh.2)]
     by_cases hc : checkV v.Items[i] (m - 1) ≠ 0
     ·rw [if_pos hc, if_pos hc]
     ·rw [if_neg hc, if_neg hc]
   ·rw [if_neg h24, if_neg (show ¬ (v.Kind = 24 ∧ IntKind.u64.wrap v.Items[i].Kind ≠ v.N') from fun hh => h24 hh.1)]
    by_cases hc : checkV v.Items[i] (m - 1) ≠ 0
    ·rw [if_pos hc, if_pos hc]
    ·rw [if_neg hc, if_neg hc]
  ·rw [if_neg (by omega), List.drop_of_length_le (by omega), checkVs]
theorem Check1_eq : ∀ (N : Nat) (v : SValue) (m : Int), Fine v → v.sz + 450 < N → v.sz < 1000000 → 0 ≤ m → m ≤ 32 → FavCheck_1 N v m = some (checkV v m)
 | 0, v, m, _, h, _, _, _ => by omega
 | N + 1, v, m, hv, h, h2, m0, m1 => by
  have hs := v.sz_eq
  have hl := SValue.szs_len v.Items
  rw [checkV_eq]
  have ht := hv.text
  simp only [FavCheck_1, BavCheck_1, cond_eq, lss_t, gtr_t, leq_t, eql_t, rowsV_len, Check_eq N v hv.num (show v.Text.length < N by omega) (by omega), shaped_eq, Option.bind_some]
  split
  ·rfl
  rename_i h1
  by_cases h25 : v.Kind > 25
  ·rw [if_pos h25, if_pos (show 25 < v.Kind from h25)]
  rw [if_neg h25, if_neg (show ¬ 25 < v.Kind from h25)]
  split
  ·rfl
  by_cases hm0 : m = 0
  ·rw [if_pos hm0, if_pos hm0]
  rw [if_neg hm0, if_neg hm0]
  cases shapedS v with
  | false => rfl
  | true =>
   simp only [Bool.not_true, Bool.false_eq_true, if_false, Bool.true_eq_false]
   by_cases hlen : 1000 < v.Items.length
   ·rw [if_pos (by omega), if_pos hlen]
   rw [if_neg (by omega), if_neg hlen]
   have := Check1_L0 (R := FavCheck_1 N) (N := N) (v := v) (m := m) h2 (by omega) ⟨by omega, m1⟩ (fun y hy => Check1_eq N y (m - 1) (hv.items y hy) (by have := SValue.szs_mem _ y hy; omega) (by have := SValue.szs_mem _ y hy; omega) (by omega) (by omega)) N 0 (by omega) (by omega)
   exact this
def rightS (m : Int) : Bool := decide (0 ≤ m ∧ m ≤ 32)
theorem right_eq (N : Nat) (m : Int) : FavmostRight N m = some (rightS m) := by
 unfold FavmostRight rightS
 simp only [cond_eq, geq_t]
 by_cases h : 0 ≤ m
 ·rw [if_pos h]
  show some (decide (m ≤ 32)) = _
  rw [Option.some.injEq, decide_eq_decide]; omega
 ·rw [if_neg h, decide_eq_false (by omega)]
noncomputable def checkM (v : SValue) (m : Int) : Int := if rightS m = false then 2 else checkV v m
theorem CheckV_eq (N : Nat) (v : SValue) (m : Int) (hv : Fine v) (h : v.sz + 450 < N) (h2 : v.sz < 1000000) : FavCheck N v m = some (checkM v m) := by
 simp only [FavCheck, right_eq, Option.bind_some, cond_eq, checkM]
 cases hr : rightS m with
 | false => rfl
 | true =>
  have : 0 ≤ m ∧ m ≤ 32 := by simpa [rightS] using hr
  simp only [Bool.not_true, Bool.false_eq_true, if_false, Bool.true_eq_false]
  rw [Check1_eq N v m hv h h2 this.1 this.2]; rfl
end
end Go.Av
namespace Go.Av
noncomputable section
open Go.Proofs
set_option maxRecDepth 100000
end
end Go.Av
namespace Go.Av
noncomputable section
open Go.Proofs
set_option maxRecDepth 100000
abbrev Rd := SValue × Int × Int
def rdAll (rd : List UInt8 → Rd) : Nat → List UInt8 → List SValue → (List SValue × List UInt8) × Int
 | 0, s, acc => ((acc, s), 0)
 | c + 1, s, acc => if (rd s).2.2 ≠ 0 then (([], []), (rd s).2.2) else rdAll rd c (s.drop (rd s).2.1.toNat) (acc ++ [(rd s).1])
def readOf (data : Int → List UInt8 → Rd) : List UInt8 → Rd
 | [] => (zeroV, 0, 3)
 | b :: t => if (data (b.toNat : Int) t).2.2 ≠ 0 then (zeroV, 0, (data (b.toNat : Int) t).2.2) else ((data (b.toNat : Int) t).1, (data (b.toNat : Int) t).2.1 + 1, 0)
def descR (rd : List UInt8 → Rd) (s : List UInt8) : Rd := if (rdAll rd 2 s []).2 ≠ 0 then (zeroV, 0, (rdAll rd 2 s []).2) else (⟨25, 0, [], (rdAll rd 2 s []).1.1⟩, ((s.length - (rdAll rd 2 s []).1.2.length : Nat) : Int), 0)
noncomputable def fin2 (k num : Int) (q : (List SValue × List UInt8) × Int) (tot : Nat) : Rd := if q.2 ≠ 0 then (zeroV, 0, if q.2 = 3 then 5 else q.2) else if q.1.2 ≠ [] then (zeroV, 0, 5)
 else if keysS ⟨k, num, [], q.1.1⟩ ≠ 0 then (zeroV, 0, keysS ⟨k, num, [], q.1.1⟩) else (⟨k, num, [], q.1.1⟩, (tot : Int), 0)
theorem fin2_err {k num e : Int} {tot : Nat} {x : List SValue × List UInt8} (he : e ≠ 0) : fin2 k num (x, e) tot = (zeroV, 0, if e = 3 then 5 else e) := by
 unfold fin2
 rw [if_pos (show (x, e).2 ≠ 0 from he)]
noncomputable def arrR (data : Int → List UInt8 → Rd) (cnt tot : Nat) (k : Int) : List UInt8 → Rd
 | [] => (zeroV, 0, 5)
 | b :: t => if ofB (b.toNat : Int) = false ∨ b.toNat = 0 then (zeroV, 0, 8) else fin2 k (ofS (b.toNat : Int)).Kind (rdAll (data (b.toNat : Int)) cnt t []) tot
noncomputable def bodyR (data : Int → List UInt8 → Rd) (c : SCtor) (w : Nat) (body : List UInt8) (tot : Nat) : Rd :=
 if body.length < w then (zeroV, 0, 5)
 else if 1000 < numB (body.take w) then (zeroV, 0, 4)
 else if c.Kind = 23 ∧ numB (body.take w) % 2 ≠ 0 then (zeroV, 0, 5)
 else if c.Kind = 24 then arrR data (numB (body.take w)) tot c.Kind (body.drop w)
 else fin2 c.Kind 0 (rdAll (readOf data) (numB (body.take w)) (body.drop w) []) tot
noncomputable def sizedR (data : Int → List UInt8 → Rd) (c : SCtor) (s : List UInt8) : Rd :=
 if s.length < c.Width.toNat then (zeroV, 0, 3)
 else if s.length - c.Width.toNat < numB (s.take c.Width.toNat) then (zeroV, 0, 3)
 else bodyR data c c.Width.toNat ((s.drop c.Width.toNat).take (numB (s.take c.Width.toNat))) (c.Width.toNat + numB (s.take c.Width.toNat))
noncomputable def dataR : Nat → Int → List UInt8 → Rd
 | 0, code, s => if ofB code = false then (zeroV, 0, 8) else if (ofS code).Items = false then getS code s else (zeroV, 0, 14)
 | m + 1, code, s => if ofB code = false then (zeroV, 0, 8) else if (ofS code).Items = false then getS code s
  else if (ofS code).Kind = 25 then descR (readOf (dataR m)) s else if (ofS code).Sized = false then (⟨(ofS code).Kind, 0, [], []⟩, 0, 0) else sizedR (dataR m) (ofS code) s
def Good (rd : List UInt8 → Rd) : Prop := ∀ s, s.length ≤ 600 → (rd s).2.2 = 0 → 0 ≤ (rd s).2.1 ∧ (rd s).2.1 ≤ s.length ∧ (rd s).1.sz ≤ 1 + 1000 * (rd s).2.1.toNat
theorem wrapC (b : UInt8) : IntKind.i64.wrap ((b.toNat : Nat) : Int) = ((b.toNat : Nat) : Int) := by
 have h : b.toNat < 256 := b.toNat_lt
 exact wrap64 _ (by omega)
theorem cons_drop {text : List UInt8} {at' : Nat} (_h : at' ≤ text.length) (k : Nat) : (text.drop at').drop k = text.drop (at' + k) := by rw [List.drop_drop]
theorem Rest_eq (N : Nat) (s : List UInt8) (i : Nat) (e : Int) (hi : i ≤ s.length) : FocCursor_Rest N ⟨s, i, e⟩ = some (s.drop i, ⟨s, i, e⟩) := by
 simp only [FocCursor_Rest, cond_eq]
 rw [if_pos (by simp), if_pos (by simp [Nat.ble_eq]; exact hi)]
 simp
theorem u64s (i : Nat) (h : i < 1000000) : IntKind.u64.wrap ((i : Int) + 1) = ((i + 1 : Nat) : Int) := by
 rw [show ((i : Int) + 1) = ((i + 1 : Nat) : Int) by push_cast; rfl]; exact u64_wrap _ (by omega)
theorem sized_L1_eq {R : List UInt8 → Int → Option Rd} {N : Nat} {c : SCtor} {most : Int} {v9 : (List UInt8) × Soctet_Cursor} {v11 : Int × Soctet_Cursor} {rd : List UInt8 → Rd} {text : List UInt8} {cnt tot : Nat}
  (hm : 1 ≤ most ∧ most ≤ 32) (ht : text.length ≤ 600) (hc : cnt ≤ 1000) (h11 : v11.1 = (cnt : Int)) (h9 : v9.2.at' = (tot : Int)) (hN : 700000 < N) (hR : ∀ s, s.length ≤ text.length → R s (most - 1) = some (rd s)) (hg : Good rd) :
  ∀ (n i at' : Nat) (l : List SValue), i ≤ cnt → cnt - i < n → at' ≤ text.length → l.length = i → SValue.szs l ≤ i + 1000 * at' →
  Bavsized_L1 R N c most v9 v11 n (i : Int) text (at' : Int) 0 l = some (fin2 c.Kind 0 (rdAll rd (cnt - i) (text.drop at') l) tot)
 | 0, i, at', l, _, h, _, _, _ => by omega
 | n + 1, i, at', l, hi, hn, ha, hl, hz => by
  simp only [Bavsized_L1, cond_eq, lss_t, eql_t, neq_t, h11, Rest_eq N text at' 0 ha, Option.bind_some, wrap64 (most - 1) (show _ by omega), hR (text.drop at') (by rw [List.length_drop]; omega)]
  by_cases hic : i < cnt
  ·rw [if_pos (by omega)]
   obtain ⟨k, hk⟩ : ∃ k, cnt - i = k + 1 := ⟨cnt - i - 1, by omega⟩
   rw [hk, rdAll]
   have hgd := hg (text.drop at') (by rw [List.length_drop]; omega)
   generalize hr : rd (text.drop at') = r at hgd ⊢
   obtain ⟨x, m, e⟩ := r
   simp only [] at hgd ⊢
   by_cases he : e = 0
   ·subst he
    obtain ⟨g1, g2, g3⟩ := hgd rfl
    rw [List.length_drop] at g2
    obtain ⟨mm, rfl⟩ := Int.eq_ofNat_of_zero_le g1
    rw [if_pos rfl, Take_eq N text at' mm (by unfold sane; omega) ha (by omega), if_pos (by omega)]
    simp only [Option.bind_some]
    rw [if_neg (by decide), if_neg (by simp), if_pos (by simp [Nat.ble_eq]; omega), u64s i (by omega), if_neg (by simp)]
    have ih := sized_L1_eq (c := c) (v9 := v9) (tot := tot) hm ht hc h11 h9 hN hR hg n (i + 1) (at' + mm) (l ++ [x]) (by omega) (by omega) (by omega) (by simp [hl]) (by
     rw [SValue.szs_app]
     simp only [SValue.szs, Int.toNat_natCast] at g3 ⊢
     omega)
    rw [ih, show cnt - (i + 1) = k by omega, cons_drop ha]
    simp only [Int.toNat_natCast]
   ·rw [if_neg he]
    rw [if_pos (show e ≠ 0 from he), if_pos (show e ≠ 0 from he), fin2_err he]
    by_cases h3 : e = 3
    ·rw [if_pos h3, if_pos h3]; rfl
    ·rw [if_neg h3, if_neg h3]; rfl
  ·rw [if_neg (by omega), show cnt - i = 0 by omega, rdAll, Left_eq N text at' 0 ha]
   simp only [Option.bind_some]
   unfold fin2
   simp only []
   rw [if_neg (show ¬ ((0 : Int) ≠ 0) by simp)]
   by_cases hrest : text.drop at' = []
   ·have : text.length - at' = 0 := by
     have := congrArg List.length hrest
     rw [List.length_drop] at this; simpa using this
    rw [if_neg (by omega), if_neg (by simp [hrest])]
    have hsz : SValue.sz ⟨c.Kind, 0, [], l⟩ = 1 + SValue.szs l := by rw [SValue.sz_eq]
    rw [keys_eq N ⟨c.Kind, 0, [], l⟩ (by omega) (by omega)]
    simp only [Option.bind_some]
    split
    ·rfl
    ·simp only [FocCursor_At, Option.bind_some, h9]
   ·have : text.length - at' ≠ 0 := by
     intro h0
     exact hrest (List.drop_of_length_le (by omega))
    rw [if_pos (by omega), if_pos hrest]; rfl
theorem sized_L3_eq {R : List UInt8 → Int → Option Rd} {N : Nat} {c : SCtor} {most : Int} {v9 : (List UInt8) × Soctet_Cursor} {v11 : Int × Soctet_Cursor} {rd : List UInt8 → Rd} {text : List UInt8} {cnt tot : Nat}
  (hm : 1 ≤ most ∧ most ≤ 32) (ht : text.length ≤ 600) (hc : cnt ≤ 1000) (h11 : v11.1 = (cnt : Int)) (h9 : v9.2.at' = (tot : Int)) (hN : 700000 < N) (hR : ∀ s, s.length ≤ text.length → R s (most - 1) = some (rd s)) (hg : Good rd) :
  ∀ (n i at' : Nat) (l : List SValue), i ≤ cnt → cnt - i < n → at' ≤ text.length → l.length = i → SValue.szs l ≤ i + 1000 * at' →
  Bavsized_L3 R N c most v9 v11 n (i : Int) text (at' : Int) 0 l = some (fin2 c.Kind 0 (rdAll rd (cnt - i) (text.drop at') l) tot)
 | 0, i, at', l, _, h, _, _, _ => by omega
 | n + 1, i, at', l, hi, hn, ha, hl, hz => by
  simp only [Bavsized_L3, cond_eq, lss_t, eql_t, neq_t, h11, Rest_eq N text at' 0 ha, Option.bind_some, wrap64 (most - 1) (show _ by omega), hR (text.drop at') (by rw [List.length_drop]; omega)]
  by_cases hic : i < cnt
  ·rw [if_pos (by omega)]
   obtain ⟨k, hk⟩ : ∃ k, cnt - i = k + 1 := ⟨cnt - i - 1, by omega⟩
   rw [hk, rdAll]
   have hgd := hg (text.drop at') (by rw [List.length_drop]; omega)
   generalize hr : rd (text.drop at') = r at hgd ⊢
   obtain ⟨x, m, e⟩ := r
   simp only [] at hgd ⊢
   by_cases he : e = 0
   ·subst he
    obtain ⟨g1, g2, g3⟩ := hgd rfl
    rw [List.length_drop] at g2
    obtain ⟨mm, rfl⟩ := Int.eq_ofNat_of_zero_le g1
    rw [if_pos rfl, Take_eq N text at' mm (by unfold sane; omega) ha (by omega), if_pos (by omega)]
    simp only [Option.bind_some]
    rw [if_neg (by decide), if_neg (by simp), if_pos (by simp [Nat.ble_eq]; omega), u64s i (by omega), if_neg (by simp)]
    have ih := sized_L3_eq (c := c) (v9 := v9) (tot := tot) hm ht hc h11 h9 hN hR hg n (i + 1) (at' + mm) (l ++ [x]) (by omega) (by omega) (by omega) (by simp [hl]) (by
     rw [SValue.szs_app]
     simp only [SValue.szs, Int.toNat_natCast] at g3 ⊢
     omega)
    rw [ih, show cnt - (i + 1) = k by omega, cons_drop ha]
    simp only [Int.toNat_natCast]
   ·rw [if_neg he]
    rw [if_pos (show e ≠ 0 from he), if_pos (show e ≠ 0 from he), fin2_err he]
    by_cases h3 : e = 3
    ·rw [if_pos h3, if_pos h3]; rfl
    ·rw [if_neg h3, if_neg h3]; rfl
  ·rw [if_neg (by omega), show cnt - i = 0 by omega, rdAll, Left_eq N text at' 0 ha]
   simp only [Option.bind_some]
   unfold fin2
   simp only []
   rw [if_neg (show ¬ ((0 : Int) ≠ 0) by simp)]
   by_cases hrest : text.drop at' = []
   ·have : text.length - at' = 0 := by
     have := congrArg List.length hrest
     rw [List.length_drop] at this; simpa using this
    rw [if_neg (by omega), if_neg (by simp [hrest])]
    have hsz : SValue.sz ⟨c.Kind, 0, [], l⟩ = 1 + SValue.szs l := by rw [SValue.sz_eq]
    rw [keys_eq N ⟨c.Kind, 0, [], l⟩ (by omega) (by omega)]
    simp only [Option.bind_some]
    split
    ·rfl
    ·simp only [FocCursor_At, Option.bind_some, h9]
   ·have : text.length - at' ≠ 0 := by
     intro h0
     exact hrest (List.drop_of_length_le (by omega))
    rw [if_pos (by omega), if_pos hrest]; rfl
theorem sized_L2_eq {R : List UInt8 → Int → Option Rd} {R2 : Int → List UInt8 → Int → Option Rd} {N : Nat} {c : SCtor} {most : Int} {v9 : (List UInt8) × Soctet_Cursor} {v11 : Int × Soctet_Cursor} {v23 : Int × Soctet_Cursor} {v25 : SCtor × Bool} {rd : List UInt8 → Rd} {text : List UInt8} {cnt tot : Nat} {b : UInt8}
  (hm : 1 ≤ most ∧ most ≤ 32) (ht : text.length ≤ 600) (hc : cnt ≤ 1000) (h11 : v11.1 = (cnt : Int)) (h9 : v9.2.at' = (tot : Int)) (h23 : v23.1 = (b.toNat : Int)) (h25 : 0 ≤ v25.1.Kind ∧ v25.1.Kind ≤ 25) (hN : 700000 < N) (hR : ∀ s, s.length ≤ text.length → R2 (b.toNat : Int) s (most - 1) = some (rd s)) (hg : Good rd) :
  ∀ (n i at' : Nat) (l : List SValue), i ≤ cnt → cnt - i < n → at' ≤ text.length → l.length = i → SValue.szs l ≤ i + 1000 * at' →
  Bavsized_L2 R R2 N c most v9 v11 v23 v25 n (i : Int) text (at' : Int) 0 l = some (fin2 c.Kind v25.1.Kind (rdAll rd (cnt - i) (text.drop at') l) tot)
 | 0, i, at', l, _, h, _, _, _ => by omega
 | n + 1, i, at', l, hi, hn, ha, hl, hz => by
  have hb : b.toNat < 256 := b.toNat_lt
  have hkw : IntKind.u64.wrap v25.1.Kind = v25.1.Kind := by rw [wrapU]; omega
  simp only [Bavsized_L2, cond_eq, lss_t, eql_t, neq_t, h11, h23, wrapC, hkw, Rest_eq N text at' 0 ha, Option.bind_some, wrap64 (most - 1) (show _ by omega), hR (text.drop at') (by rw [List.length_drop]; omega)]
  by_cases hic : i < cnt
  ·rw [if_pos (by omega), if_neg (by omega)]
   obtain ⟨k, hk⟩ : ∃ k, cnt - i = k + 1 := ⟨cnt - i - 1, by omega⟩
   rw [hk, rdAll]
   have hgd := hg (text.drop at') (by rw [List.length_drop]; omega)
   generalize hr : rd (text.drop at') = r at hgd ⊢
   obtain ⟨x, m, e⟩ := r
   simp only [] at hgd ⊢
   by_cases he : e = 0
   ·subst he
    obtain ⟨g1, g2, g3⟩ := hgd rfl
    rw [List.length_drop] at g2
    obtain ⟨mm, rfl⟩ := Int.eq_ofNat_of_zero_le g1
    rw [if_pos rfl, Take_eq N text at' mm (by unfold sane; omega) ha (by omega), if_pos (by omega)]
    simp only [Option.bind_some]
    rw [if_neg (by decide), if_neg (by simp), if_pos (by simp [Nat.ble_eq]; omega), u64s i (by omega), if_neg (by simp)]
    have ih := sized_L2_eq (R := R) (c := c) (v9 := v9) (tot := tot) hm ht hc h11 h9 h23 h25 hN hR hg n (i + 1) (at' + mm) (l ++ [x]) (by omega) (by omega) (by omega) (by simp [hl]) (by
     rw [SValue.szs_app]
     simp only [SValue.szs, Int.toNat_natCast] at g3 ⊢
     omega)
    rw [ih, show cnt - (i + 1) = k by omega, cons_drop ha]
    simp only [Int.toNat_natCast]
   ·rw [if_neg he]
    rw [if_pos (show e ≠ 0 from he), if_pos (show e ≠ 0 from he), fin2_err he]
    by_cases h3 : e = 3
    ·rw [if_pos h3, if_pos h3]; rfl
    ·rw [if_neg h3, if_neg h3]; rfl
  ·rw [if_neg (by omega), show cnt - i = 0 by omega, rdAll, Left_eq N text at' 0 ha]
   simp only [Option.bind_some]
   unfold fin2
   simp only []
   rw [if_neg (show ¬ ((0 : Int) ≠ 0) by simp)]
   by_cases hrest : text.drop at' = []
   ·have : text.length - at' = 0 := by
     have := congrArg List.length hrest
     rw [List.length_drop] at this; simpa using this
    rw [if_neg (by omega), if_neg (by simp [hrest])]
    have hsz : SValue.sz ⟨c.Kind, v25.1.Kind, [], l⟩ = 1 + SValue.szs l := by rw [SValue.sz_eq]
    rw [keys_eq N ⟨c.Kind, v25.1.Kind, [], l⟩ (by omega) (by omega)]
    simp only [Option.bind_some]
    split
    ·rfl
    ·simp only [FocCursor_At, Option.bind_some, h9]
   ·have : text.length - at' ≠ 0 := by
     intro h0
     exact hrest (List.drop_of_length_le (by omega))
    rw [if_pos (by omega), if_pos hrest]; rfl
end
end Go.Av
namespace Go.Av
noncomputable section
open Go.Proofs
set_option maxRecDepth 100000
/-! constructors of what has items -/
def itemsB (k : Nat) : Bool := !(tabAt k).2.2.2.2 || (if (tabAt k).2.2.2.1 then decide (((tabAt k).2.2.1 = 1 ∨ (tabAt k).2.2.1 = 4) ∧ 22 ≤ (tabAt k).2.1 ∧ (tabAt k).2.1 ≤ 24) else decide ((tabAt k).2.1 = 25 ∨ (tabAt k).2.1 = 22))
theorem items_all : ((List.range 40).all itemsB) = true := by decide +kernel
theorem row_of' {P : Int × Int × Int × Bool × Bool → Prop} {B : Nat → Bool} (hB : ((List.range 40).all B) = true) (hP : ∀ k, B k = true → P (tabAt k)) {code : Int} (h : ofB code = true) : P (ofT code) := by
 have h1 : bsI code < 40 ∧ codeAt (bsI code) = code := by simpa [ofB] using h
 have := List.all_eq_true.1 hB (bsI code) (by simpa using h1.1)
 have e : ofT code = tabAt (bsI code) := by unfold ofT; rw [if_pos h]
 rw [e]; exact hP _ this
theorem items_shape {code : Int} (h : ofB code = true) (hi : (ofS code).Items = true) : ((ofS code).Sized = true → ((ofS code).Width = 1 ∨ (ofS code).Width = 4) ∧ 22 ≤ (ofS code).Kind ∧ (ofS code).Kind ≤ 24) ∧ ((ofS code).Sized = false → (ofS code).Kind = 25 ∨ (ofS code).Kind = 22) :=
 row_of' (P := fun t => t.2.2.2.2 = true → (t.2.2.2.1 = true → (t.2.2.1 = 1 ∨ t.2.2.1 = 4) ∧ 22 ≤ t.2.1 ∧ t.2.1 ≤ 24) ∧ (t.2.2.2.1 = false → t.2.1 = 25 ∨ t.2.1 = 22)) items_all (fun k hk h1 => by
  simp only [itemsB, h1, Bool.not_true, Bool.false_or] at hk
  refine ⟨fun h2 => ?_, fun h2 => ?_⟩
  ·rw [h2] at hk; simpa using hk
  ·rw [h2] at hk; simpa using hk) h hi
theorem desc_L0 {R : List UInt8 → Int → Option Rd} {N : Nat} {most : Int} {rd : List UInt8 → Rd} {text : List UInt8} (hm : 1 ≤ most ∧ most ≤ 32) (ht : text.length ≤ 600) (hN : 100 < N) (hR : ∀ s, s.length ≤ text.length → R s (most - 1) = some (rd s)) (hg : Good rd) :
  ∀ (n i at' : Nat) (l : List SValue), i ≤ 2 → 2 - i < n → at' ≤ text.length → l.length = i →
  Bavdescribed_L0 R N most n (i : Int) text (at' : Int) 0 l = some (if (rdAll rd (2 - i) (text.drop at') l).2 ≠ 0 then (zeroV, 0, (rdAll rd (2 - i) (text.drop at') l).2) else (⟨25, 0, [], (rdAll rd (2 - i) (text.drop at') l).1.1⟩, ((text.length - (rdAll rd (2 - i) (text.drop at') l).1.2.length : Nat) : Int), 0))
 | 0, i, at', l, _, h, _, _ => by omega
 | n + 1, i, at', l, hi, hn, ha, hl => by
  simp only [Bavdescribed_L0, cond_eq, lss_t, eql_t, neq_t, Rest_eq N text at' 0 ha, Option.bind_some, wrap64 (most - 1) (show _ by omega), hR (text.drop at') (by rw [List.length_drop]; omega)]
  by_cases hic : i < 2
  ·rw [if_pos (by omega)]
   obtain ⟨k, hk⟩ : ∃ k, 2 - i = k + 1 := ⟨2 - i - 1, by omega⟩
   rw [hk, rdAll]
   have hgd := hg (text.drop at') (by rw [List.length_drop]; omega)
   generalize hr : rd (text.drop at') = r at hgd ⊢
   obtain ⟨x, m, e⟩ := r
   simp only [] at hgd ⊢
   by_cases he : e = 0
   ·subst he
    obtain ⟨g1, g2, g3⟩ := hgd rfl
    rw [List.length_drop] at g2
    obtain ⟨mm, rfl⟩ := Int.eq_ofNat_of_zero_le g1
    rw [if_pos rfl, Take_eq N text at' mm (by unfold sane; omega) ha (by omega), if_pos (by omega)]
    simp only [Option.bind_some]
    rw [if_neg (by simp), if_pos (by simp [Nat.ble_eq]; omega), wrap64 _ (by omega), if_neg (show ¬ ((0 : Int) ≠ 0) by simp)]
    have ih := desc_L0 hm ht hN hR hg n (i + 1) (at' + mm) (l ++ [x]) (by omega) (by omega) (by omega) (by simp [hl])
    rw [show ((i : Int) + 1) = ((i + 1 : Nat) : Int) by push_cast; rfl, ih, show 2 - (i + 1) = k by omega, cons_drop ha]
    simp only [Int.toNat_natCast]
   ·rw [if_neg he, if_pos (show e ≠ 0 from he), if_pos (show e ≠ 0 from he)]
    simp only []
    rw [if_pos (show e ≠ 0 from he)]; rfl
  ·rw [if_neg (by omega), show 2 - i = 0 by omega, rdAll]
   simp only [FocCursor_At, Option.bind_some]
   rw [if_neg (show ¬ ((0 : Int) ≠ 0) by simp), List.length_drop]
   congr 3
   omega
/-! what is read -/
theorem rdAll_ok {rd : List UInt8 → Rd} {lo : Nat} (hg : Good rd) (hlo : ∀ s, s.length ≤ 600 → (rd s).2.2 = 0 → (lo : Int) ≤ (rd s).2.1 ∧ (rd s).1.sz + 1000 * lo ≤ 1 + 1000 * (rd s).2.1.toNat) : ∀ (c : Nat) (s : List UInt8) (acc : List SValue), s.length ≤ 600 → (rdAll rd c s acc).2 = 0 →
  ∃ k, k ≤ s.length ∧ (rdAll rd c s acc).1.2 = s.drop k ∧ SValue.szs (rdAll rd c s acc).1.1 + 1000 * (lo * c) ≤ SValue.szs acc + c + 1000 * k ∧ (rdAll rd c s acc).1.1.length = acc.length + c ∧ lo * c ≤ k
 | 0, s, acc, _, _ => ⟨0, by omega, by simp [rdAll], by simp [rdAll], by simp [rdAll], by simp⟩
 | c + 1, s, acc, hs, h => by
  rw [rdAll] at h ⊢
  split at h
  ·rename_i he; exact absurd h he
  ·rename_i he
   rw [if_neg he]
   obtain ⟨g0, g0'⟩ := hlo s hs (Classical.byContradiction he)
   obtain ⟨g1, g2, g3⟩ := hg s hs (Classical.byContradiction he)
   obtain ⟨k, k1, k2, k3, k4, k5⟩ := rdAll_ok hg hlo c (s.drop (rd s).2.1.toNat) (acc ++ [(rd s).1]) (by rw [List.length_drop]; omega) h
   rw [List.length_drop] at k1
   refine ⟨(rd s).2.1.toNat + k, by omega, by rw [k2, List.drop_drop], ?_, by rw [k4]; simp; omega, by rw [Nat.mul_succ]; omega⟩
   rw [SValue.szs_app] at k3
   rw [Nat.mul_succ]
   simp only [SValue.szs] at k3
   omega
theorem good_read {data : Int → List UInt8 → Rd} (h : ∀ code, Good (data code)) : Good (readOf data) ∧ ∀ s, s.length ≤ 600 → (readOf data s).2.2 = 0 → ((1 : Nat) : Int) ≤ (readOf data s).2.1 ∧ (readOf data s).1.sz + 1000 * 1 ≤ 1 + 1000 * (readOf data s).2.1.toNat := by
 have key : ∀ s, s.length ≤ 600 → (readOf data s).2.2 = 0 → 1 ≤ (readOf data s).2.1 ∧ (readOf data s).2.1 ≤ s.length ∧ (readOf data s).1.sz + 1000 * 1 ≤ 1 + 1000 * (readOf data s).2.1.toNat := by
  intro s hs he
  cases s with
  | nil => simp [readOf] at he
  | cons b t =>
   simp only [readOf] at he ⊢
   split at he
   ·rename_i h1; exact absurd he h1
   ·rename_i h1
    rw [if_neg h1]
    simp only [List.length_cons] at hs ⊢
    obtain ⟨g1, g2, g3⟩ := h b.toNat t (by omega) (Classical.byContradiction h1)
    refine ⟨by omega, by push_cast; omega, ?_⟩
    have : ((data (b.toNat : Int) t).2.1 + 1).toNat = (data (b.toNat : Int) t).2.1.toNat + 1 := by omega
    rw [this]; omega
 exact ⟨fun s hs he => by obtain ⟨a, b, c⟩ := key s hs he; exact ⟨by omega, b, by omega⟩, fun s hs he => ⟨(key s hs he).1, (key s hs he).2.2⟩⟩
theorem fin2_ok {k num : Int} {q : (List SValue × List UInt8) × Int} {tot : Nat} (h : (fin2 k num q tot).2.2 = 0) : q.2 = 0 ∧ q.1.2 = [] ∧ keysS ⟨k, num, [], q.1.1⟩ = 0 ∧ fin2 k num q tot = (⟨k, num, [], q.1.1⟩, (tot : Int), 0) := by
 unfold fin2 at h ⊢
 split at h
 ·simp only [] at h
  split at h
  ·cases h
  ·rename_i h1 _; exact absurd h h1
 split at h
 ·cases h
 split at h
 ·rename_i h3; exact absurd h h3
 ·rename_i h1 h2 h3
  rw [if_neg h1, if_neg h2, if_neg h3]
  exact ⟨Classical.byContradiction h1, Classical.byContradiction h2, Classical.byContradiction h3, rfl⟩
theorem sized_ok {data : Int → List UInt8 → Rd} {c : SCtor} {s : List UInt8} (h : (sizedR data c s).2.2 = 0) : ∃ (body : List UInt8) (num : Int) (q : (List SValue × List UInt8) × Int) (cnt : Nat) (rest : List UInt8), s.length ≥ c.Width.toNat + numB (s.take c.Width.toNat) ∧ body = (s.drop c.Width.toNat).take (numB (s.take c.Width.toNat)) ∧ c.Width.toNat ≤ body.length ∧ cnt ≤ 1000 ∧
  ((c.Kind ≠ 24 ∧ num = 0 ∧ rest = body.drop c.Width.toNat ∧ q = rdAll (readOf data) cnt rest []) ∨ (c.Kind = 24 ∧ ∃ b : UInt8, body.drop c.Width.toNat = b :: rest ∧ ofB (b.toNat : Int) = true ∧ b.toNat ≠ 0 ∧ num = (ofS (b.toNat : Int)).Kind ∧ q = rdAll (data (b.toNat : Int)) cnt rest [])) ∧
  (c.Kind = 23 → cnt % 2 = 0) ∧ (fin2 c.Kind num q (c.Width.toNat + numB (s.take c.Width.toNat))).2.2 = 0 ∧ sizedR data c s = fin2 c.Kind num q (c.Width.toNat + numB (s.take c.Width.toNat)) := by
 unfold sizedR at h ⊢
 split at h
 ·cases h
 rename_i h1; rw [if_neg h1]
 split at h
 ·cases h
 rename_i h2; rw [if_neg h2]
 unfold bodyR at h ⊢
 split at h
 ·cases h
 rename_i h3; rw [if_neg h3]
 split at h
 ·cases h
 rename_i h4; rw [if_neg h4]
 split at h
 ·cases h
 rename_i h5; rw [if_neg h5]
 split at h
 ·rename_i h6; rw [if_pos h6]
  cases hb : ((s.drop c.Width.toNat).take (numB (s.take c.Width.toNat))).drop c.Width.toNat with
  | nil => rw [hb] at h; cases h
  | cons b rest =>
   rw [hb] at h
   simp only [arrR] at h ⊢
   split at h
   ·cases h
   rename_i h7; rw [if_neg h7]
   refine ⟨_, _, _, _, rest, by omega, rfl, by omega, by omega, .inr ⟨h6, b, hb, ?_, ?_, rfl, rfl⟩, fun hk => by omega, h, rfl⟩
   ·cases ho : ofB (b.toNat : Int) with
    | true => rfl
    | false => exact absurd (.inl ho) h7
   ·exact fun ho => h7 (.inr ho)
 ·rename_i h6; rw [if_neg h6]
  exact ⟨_, _, _, _, _, by omega, rfl, by omega, by omega, .inl ⟨h6, rfl, rfl, rfl⟩, fun hk => by
   apply Classical.byContradiction
   intro hn; exact h5 ⟨hk, hn⟩, h, rfl⟩
theorem ar1 {z lo c k r : Nat} (h : z + 1000 * (lo * c) ≤ 0 + c + 1000 * k) (hk : k ≤ r) (hc : c ≤ 1000) : z ≤ 1000 + 1000 * r := by omega
theorem leaf_good {code : Int} {s : List UInt8} (hs : s.length ≤ 600) (h : (getS code s).2.2 = 0) : 0 ≤ (getS code s).2.1 ∧ (getS code s).2.1 ≤ s.length ∧ (getS code s).1.sz ≤ 1 + 1000 * (getS code s).2.1.toNat := by
 generalize hg : getS code s = g at h ⊢
 obtain ⟨x, n, e⟩ := g
 simp only at h
 subst h
 obtain ⟨h1, h2, h3, h4, h5, h6, h7⟩ := reads (by unfold sane; omega) hg
 refine ⟨h1, h2, ?_⟩
 rw [SValue.sz_eq, (check_ok h5).2.2.2.1]
 simp only [SValue.szs]; omega
theorem good_data : ∀ (m : Nat) (code : Int), Good (dataR m code) := by
 intro m
 induction m with
 | zero =>
  intro code s hs h
  rw [dataR] at h ⊢
  split at h
  ·cases h
  rename_i h1; rw [if_neg h1]
  split at h
  ·rename_i h2; rw [if_pos h2]; exact leaf_good hs h
  ·cases h
 | succ m ih =>
  intro code s hs h
  obtain ⟨hrd, hr1⟩ := good_read ih
  rw [dataR] at h ⊢
  split at h
  ·cases h
  rename_i h1; rw [if_neg h1]
  split at h
  ·rename_i h2; rw [if_pos h2]; exact leaf_good hs h
  rename_i h2; rw [if_neg h2]
  split at h
  ·rename_i h3; rw [if_pos h3]
   unfold descR at h ⊢
   split at h
   ·rename_i h4; exact absurd h h4
   ·rename_i h4
    rw [if_neg h4]
    obtain ⟨k, k1, k2, k3, k4, k5⟩ := rdAll_ok hrd hr1 2 s [] hs (Classical.byContradiction h4)
    simp only [k2, List.length_drop]
    refine ⟨by omega, by omega, ?_⟩
    rw [SValue.sz_eq]
    simp only [SValue.szs] at k3 ⊢
    omega
  rename_i h3; rw [if_neg h3]
  split at h
  ·rename_i h4; rw [if_pos h4]; simp only []; exact ⟨by omega, by omega, by rw [SValue.sz_eq]; simp [SValue.szs]⟩
  ·rename_i h4; rw [if_neg h4]
   obtain ⟨body, num, q, cnt, rest, p1, p2, p3, p4, p5, p6, p7, p8⟩ := sized_ok h
   obtain ⟨f1, f2, f3, f4⟩ := fin2_ok p7
   rw [p8, f4]
   simp only []
   have hbl : body.length ≤ numB (s.take (ofS code).Width.toNat) := by rw [p2, List.length_take]; omega
   have hq : SValue.szs q.1.1 ≤ 1000 + 1000 * rest.length ∧ rest.length ≤ body.length := by
    rcases p5 with ⟨_, _, e1, e2⟩ | ⟨_, b, e0, _, _, _, e2⟩
    ·have hrl : rest.length ≤ body.length := by rw [e1, List.length_drop]; omega
     have hbl2 : body.length ≤ s.length := by rw [p2, List.length_take, List.length_drop]; omega
     rw [e2] at f1 ⊢
     obtain ⟨k, k1, k2, k3, k4, k5⟩ := rdAll_ok hrd hr1 cnt rest [] (by omega) f1
     simp only [SValue.szs] at k3
     exact ⟨ar1 k3 k1 p4, hrl⟩
    ·have hrl : rest.length ≤ body.length := by
      have := congrArg List.length e0
      rw [List.length_drop, List.length_cons] at this; omega
     have hbl2 : body.length ≤ s.length := by rw [p2, List.length_take, List.length_drop]; omega
     rw [e2] at f1 ⊢
     obtain ⟨k, k1, k2, k3, k4, k5⟩ := rdAll_ok (lo := 0) (ih _) (fun s hs he => ⟨(ih _ s hs he).1, by have := (ih _ s hs he).2.2; omega⟩) cnt rest [] (by omega) f1
     simp only [SValue.szs] at k3
     exact ⟨ar1 k3 k1 p4, hrl⟩
   clear p5
   refine ⟨by omega, by omega, ?_⟩
   have hob : ofB code = true := by
    cases ho : ofB code with
    | true => rfl
    | false => exact absurd ho h1
   have hit : (ofS code).Items = true := by
    cases ho : (ofS code).Items with
    | true => rfl
    | false => exact absurd ho h2
   have hsz : (ofS code).Sized = true := by
    cases ho : (ofS code).Sized with
    | true => rfl
    | false => exact absurd ho h4
   have hw := ((items_shape hob hit).1 hsz).1
   rw [SValue.sz_eq]
   simp only [Int.toNat_natCast]
   omega
end
end Go.Av
namespace Go.Av
noncomputable section
open Go.Proofs
set_option maxRecDepth 100000
theorem Number1 (N : Nat) (s : List UInt8) (i : Nat) (b : UInt8) (t : List UInt8) (h : s.drop i = b :: t) (hs : sane s) (hN : 10 < N) : FocCursor_Number N ⟨s, i, 0⟩ 1 = some ((b.toNat : Int), ⟨s, ((i + 1 : Nat) : Int), 0⟩) := by
 have hl : i < s.length := by
  apply Classical.byContradiction
  intro hn
  rw [List.drop_of_length_le (by omega)] at h; cases h
 simp only [FocCursor_Number]
 have := Take_eq N s i 1 hs (by omega) (by omega)
 rw [show ((1 : Nat) : Int) = 1 from rfl] at this
 rw [this, if_pos (by omega), h]
 simp only [Option.bind_some, List.take_succ_cons, List.take_zero]
 rw [oGet_eq N [b] (by simp) hN]
 simp [numB]
theorem tmod2 (n : Nat) : ((n : Int).tmod 2 ≠ 0) = (n % 2 ≠ 0) := by
 apply propext
 rw [Int.tmod_eq_emod_of_nonneg (by omega)]
 omega
theorem rightN (m : Nat) (h : m ≤ 32) : rightS (m : Int) = true := decide_eq_true (by omega)
theorem sizedF {R1 : List UInt8 → Int → Option Rd} {R2 : Int → List UInt8 → Int → Option Rd} {R3 : List UInt8 → Int → Option Rd} {R4 : SCtor → List UInt8 → Int → Option Rd} {N m : Nat} {c : SCtor} {s : List UInt8} {data : Int → List UInt8 → Rd}
  (hN : 700000 < N) (hm : m + 1 ≤ 32) (hs : s.length ≤ 600) (hw : c.Width = 1 ∨ c.Width = 4) (hg : ∀ code, Good (data code))
  (h1 : ∀ t, t.length ≤ 600 → R1 t (((m + 1 : Nat) : Int) - 1) = some (readOf data t)) (h2 : ∀ code t, t.length ≤ 600 → R2 code t (((m + 1 : Nat) : Int) - 1) = some (data code t)) :
  Bavsized R1 R2 R3 R4 N c s ((m + 1 : Nat) : Int) = some (sizedR data c s) := by
 obtain ⟨w, hw'⟩ : ∃ w : Nat, c.Width = w ∧ (w = 1 ∨ w = 4) := by
  rcases hw with h | h
  ·exact ⟨1, h, .inl rfl⟩
  ·exact ⟨4, h, .inr rfl⟩
 obtain ⟨hw1, hw2⟩ := hw'
 have hgr := (good_read hg).1
 have hsn : sane s := by unfold sane; omega
 simp only [Bavsized, hw1, Number_eq N s w hsn (by omega) (by omega), Option.bind_some, FocCursor_Err, cond_eq, neq_t, gtr_t, eql_t]
 unfold sizedR
 rw [hw1, Int.toNat_natCast]
 by_cases hl : w ≤ s.length
 ·rw [if_pos hl]
  dsimp only
  rw [if_neg (show ¬ s.length < w by omega), if_neg (show ¬ ((0 : Int) ≠ 0) by simp), Left_eq N s w 0 hl]
  simp only [Option.bind_some]
  have hlt := numB_lt (s.take w)
  have h4 : 256 ^ (s.take w).length ≤ 256 ^ 4 := Nat.pow_le_pow_right (by omega) (by rw [List.length_take]; omega)
  have h5 : (256 : Nat) ^ 4 = 4294967296 := rfl
  generalize hn : numB (s.take w) = n at *
  rw [wrapLen _ (by omega)]
  by_cases h6 : s.length - w < n
  ·rw [if_pos (by omega), if_pos h6]; rfl
  rw [if_neg (by omega), if_neg h6, wrap64 _ (by omega), Take_eq N s w n hsn hl (by omega), if_pos (by omega)]
  simp only [Option.bind_some]
  have hbl : ((s.drop w).take n).length = n := by rw [List.length_take, List.length_drop]; omega
  generalize hbody : (s.drop w).take n = body at *
  have hbn : sane body := by unfold sane; omega
  unfold bodyR
  rw [Number_eq N body w hbn (by omega) (by omega)]
  simp only [Option.bind_some]
  by_cases h7 : w ≤ body.length
  ·rw [if_pos h7]
   dsimp only
   rw [if_neg (show ¬ body.length < w by omega), if_neg (show ¬ ((0 : Int) ≠ 0) by simp)]
   have hlt2 := numB_lt (body.take w)
   generalize hcnt : numB (body.take w) = cnt at *
   by_cases h8 : 1000 < cnt
   ·rw [if_pos (show (cnt : Int) > 1000 by omega), if_pos h8]; rfl
   rw [if_neg (show ¬ (cnt : Int) > 1000 by omega), if_neg h8]
   simp only [tmod2]
   have hm' : (1 : Int) ≤ ((m + 1 : Nat) : Int) ∧ ((m + 1 : Nat) : Int) ≤ 32 := by omega
   have arr : ∀ (L : (Int × Soctet_Cursor) → (SCtor × Bool) → Option Rd), (∀ (b : UInt8) (t : List UInt8), body.drop w = b :: t → ofB (b.toNat : Int) = true → L ((b.toNat : Int), ⟨body, ((w + 1 : Nat) : Int), 0⟩) (ofS (b.toNat : Int), ofB (b.toNat : Int)) = some (fin2 c.Kind (ofS (b.toNat : Int)).Kind (rdAll (data (b.toNat : Int)) cnt t []) (w + n))) →
     ((FocCursor_Left N ⟨body, (w : Int), 0⟩).bind fun v20 => if v20.1 = 0 then some ((⟨0, 0, [], []⟩ : SValue), (0 : Int), (5 : Int)) else (FocCursor_Number N v20.2 1).bind fun v23 => (FapOf N (IntKind.i64.wrap v23.1)).bind fun v25 =>
      if (!v25.2) = true then some ((⟨0, 0, [], []⟩ : SValue), (0 : Int), (8 : Int)) else if IntKind.i64.wrap v23.1 = 0 then some ((⟨0, 0, [], []⟩ : SValue), (0 : Int), (8 : Int)) else L v23 v25) = some (arrR data cnt (w + n) c.Kind (body.drop w)) := by
    intro L hL
    rw [Left_eq N body w 0 h7]
    simp only [Option.bind_some]
    cases hd : body.drop w with
    | nil =>
     have : body.length - w = 0 := by
      have := congrArg List.length hd
      rw [List.length_drop] at this; simpa using this
     rw [if_pos (by omega)]; rfl
    | cons b t =>
     have : body.length - w ≠ 0 := by
      have := congrArg List.length hd
      rw [List.length_drop, List.length_cons] at this; omega
     rw [if_neg (by omega), Number1 N body w b t hd hbn (by omega)]
     simp only [Option.bind_some, FapOf, wrapC, arrR]
     cases ho : ofB (b.toNat : Int) with
     | false => rw [if_pos (by rfl), if_pos (.inl rfl)]; rfl
     | true =>
      rw [if_neg (by simp)]
      by_cases hb0 : b.toNat = 0
      ·rw [if_pos (by omega), if_pos (.inr hb0)]; rfl
      ·rw [if_neg (by omega), if_neg (by simp [hb0])]
       have := hL b t hd ho
       rw [ho] at this; exact this
   have hR1 : ∀ t : List UInt8, t.length ≤ body.length → R1 t (((m + 1 : Nat) : Int) - 1) = some (readOf data t) := fun t ht => h1 t (by omega)
   have szb : SValue.szs ([] : List SValue) ≤ 0 + 1000 * w := by simp [SValue.szs]
   have szb1 : SValue.szs ([] : List SValue) ≤ 0 + 1000 * (w + 1) := by simp [SValue.szs]
   have kb : ∀ code : Int, ofB code = true → 0 ≤ (ofS code).Kind ∧ (ofS code).Kind ≤ 25 := fun code ho => by have := (well code ho).kind; omega
   have dl : ∀ (b : UInt8) (t : List UInt8), body.drop w = b :: t → body.drop (w + 1) = t ∧ w + 1 ≤ body.length := fun b t hd => by
    refine ⟨by rw [← List.drop_drop, hd]; rfl, ?_⟩
    have := congrArg List.length hd
    rw [List.length_drop, List.length_cons] at this; omega
   by_cases h23 : c.Kind = 23
   ·rw [if_pos h23]
    by_cases h9 : cnt % 2 ≠ 0
    ·rw [if_pos h9, if_pos ⟨h23, h9⟩]; rfl
    ·rw [if_neg h9, if_neg (show ¬ (c.Kind = 23 ∧ cnt % 2 ≠ 0) from fun h => h9 h.2), if_neg (by omega), if_neg (show ¬ c.Kind = 24 by omega)]
     have := sized_L1_eq (R := R1) (N := N) (c := c) (v9 := (body, ⟨s, ((w + n : Nat) : Int), 0⟩)) (v11 := ((cnt : Int), ⟨body, (w : Int), 0⟩)) (rd := readOf data) (text := body) (cnt := cnt) (tot := w + n) hm' (by omega) (by omega) rfl rfl hN hR1 hgr N 0 w [] (by omega) (by omega) h7 rfl szb
     rw [Nat.sub_zero] at this
     exact this
   ·rw [if_neg h23, if_neg (show ¬ (c.Kind = 23 ∧ cnt % 2 ≠ 0) from fun h => h23 h.1)]
    by_cases h24 : c.Kind = 24
    ·rw [if_pos h24, if_pos h24]
     refine arr (fun v23 v25 => Bavsized_L2 R1 R2 N c ((m + 1 : Nat) : Int) (body, ⟨s, ((w + n : Nat) : Int), 0⟩) ((cnt : Int), ⟨body, (w : Int), 0⟩) v23 v25 N 0 v23.2.text v23.2.at' v23.2.err []) (fun b t hd ho => ?_)
     obtain ⟨d1, d2⟩ := dl b t hd
     have := sized_L2_eq (R := R1) (R2 := R2) (N := N) (c := c) (v9 := (body, ⟨s, ((w + n : Nat) : Int), 0⟩)) (v11 := ((cnt : Int), ⟨body, (w : Int), 0⟩)) (v23 := ((b.toNat : Int), ⟨body, ((w + 1 : Nat) : Int), 0⟩)) (v25 := (ofS (b.toNat : Int), ofB (b.toNat : Int))) (rd := data (b.toNat : Int)) (text := body) (cnt := cnt) (tot := w + n) (b := b) hm' (by omega) (by omega) rfl rfl rfl (kb _ ho) hN (fun t ht => h2 _ t (by omega)) (hg _) N 0 (w + 1) [] (by omega) (by omega) d2 rfl szb1
     rw [Nat.sub_zero, d1] at this
     exact this
    ·rw [if_neg h24, if_neg h24]
     have := sized_L3_eq (R := R1) (N := N) (c := c) (v9 := (body, ⟨s, ((w + n : Nat) : Int), 0⟩)) (v11 := ((cnt : Int), ⟨body, (w : Int), 0⟩)) (rd := readOf data) (text := body) (cnt := cnt) (tot := w + n) hm' (by omega) (by omega) rfl rfl hN hR1 hgr N 0 w [] (by omega) (by omega) h7 rfl szb
     rw [Nat.sub_zero] at this
     exact this
  ·rw [if_neg h7]
   dsimp only
   rw [if_pos (show body.length < w by omega), if_pos (show (3 : Int) ≠ 0 by decide)]; rfl
 ·rw [if_neg hl]
  dsimp only
  rw [if_pos (show s.length < w by omega), if_pos (show (3 : Int) ≠ 0 by decide)]; rfl
theorem readF {m N : Nat} {s : List UInt8} (hm : m ≤ 32) (hs : s.length ≤ 600) (h : ∀ code t, t.length ≤ s.length → FavData N code t (m : Int) = some (dataR m code t)) : FavRead (N + 1) s (m : Int) = some (readOf (dataR m) s) := by
 show BavRead (FavRead N) (FavData N) (Favdescribed N) (Favsized N) N s (m : Int) = _
 simp only [BavRead, right_eq, rightN m hm, Option.bind_some, cond_eq, Bool.not_true, Bool.false_eq_true, if_false]
 cases s with
 | nil => rfl
 | cons b t =>
  rw [if_neg (by simp [cmpS]), show idx (b :: t) 0 = some b from rfl]
  simp only [Option.bind_some]
  rw [if_pos (by simp [Nat.ble_eq]), List.take_length, wrapC]
  simp only [List.drop_succ_cons, List.drop_zero]
  rw [h _ t (by simp)]
  simp only [Option.bind_some, neq_t, readOf]
  by_cases he : (dataR m (b.toNat : Int) t).2.2 = 0
  ·rw [if_neg (by simp [he]), if_neg (by simp [he])]
   obtain ⟨g1, g2, g3⟩ := good_data m (b.toNat : Int) t (by simp at hs; omega) he
   rw [wrap64 _ (by simp at hs; omega)]
  ·rw [if_pos he, if_pos he]; rfl
theorem dataF : ∀ m : Nat, m ≤ 32 → ∀ N : Nat, 700100 + 4 * m < N → ∀ (code : Int) (s : List UInt8), s.length ≤ 600 → FavData N code s (m : Int) = some (dataR m code s) := by
 intro m
 induction m with
 | zero =>
  intro hm N hN code s hs
  obtain ⟨N, rfl⟩ : ∃ K, N = K + 1 := ⟨N - 1, by omega⟩
  show BavData (FavRead N) (FavData N) (Favdescribed N) (Favsized N) N code s ((0 : Nat) : Int) = _
  simp only [BavData, right_eq, rightN 0 hm, Option.bind_some, cond_eq, Bool.not_true, Bool.false_eq_true, if_false, FapOf, eql_t, dataR]
  cases h1 : ofB code with
  | false => rfl
  | true =>
   simp only [Bool.not_true, Bool.false_eq_true, if_false, Bool.true_eq_false]
   cases h2 : (ofS code).Items with
   | false =>
    simp only [Bool.not_false, if_true]
    rw [Get_eq N code s (by unfold sane; omega) (by omega) (by omega)]; rfl
   | true => rfl
 | succ m ih =>
  intro hm N hN code s hs
  obtain ⟨N, rfl⟩ : ∃ K, N = K + 3 := ⟨N - 3, by omega⟩
  show BavData (FavRead (N + 2)) (FavData (N + 2)) (Favdescribed (N + 2)) (Favsized (N + 2)) (N + 2) code s ((m + 1 : Nat) : Int) = _
  simp only [BavData, right_eq, rightN (m + 1) hm, Option.bind_some, cond_eq, Bool.not_true, Bool.false_eq_true, if_false, FapOf, eql_t, dataR]
  cases h1 : ofB code with
  | false => rfl
  | true =>
   simp only [Bool.not_true, Bool.false_eq_true, if_false, Bool.true_eq_false]
   cases h2 : (ofS code).Items with
   | false =>
    simp only [Bool.not_false, if_true]
    rw [Get_eq (N + 2) code s (by unfold sane; omega) (by omega) (by omega)]; rfl
   | true =>
    simp only [Bool.not_true, Bool.false_eq_true, if_false, Bool.true_eq_false]
    rw [if_neg (show ¬ (((m + 1 : Nat) : Int) = 0) by omega)]
    have hR : ∀ t : List UInt8, t.length ≤ 600 → FavRead (N + 1) t (((m + 1 : Nat) : Int) - 1) = some (readOf (dataR m) t) := fun t ht => by
     rw [show (((m + 1 : Nat) : Int) - 1) = (m : Int) by omega]
     exact readF (by omega) ht (fun code u hu => ih (by omega) N (by omega) code u (by omega))
    have hD : ∀ (code : Int) (t : List UInt8), t.length ≤ 600 → FavData (N + 1) code t (((m + 1 : Nat) : Int) - 1) = some (dataR m code t) := fun code t ht => by
     rw [show (((m + 1 : Nat) : Int) - 1) = (m : Int) by omega]
     exact ih (by omega) (N + 1) (by omega) code t ht
    by_cases h3 : (ofS code).Kind = 25
    ·rw [if_pos h3, if_pos h3]
     show (Bavdescribed (FavRead (N + 1)) (FavData (N + 1)) (Favdescribed (N + 1)) (Favsized (N + 1)) (N + 1) s ((m + 1 : Nat) : Int)).bind _ = _
     simp only [Bavdescribed]
     have := desc_L0 (R := FavRead (N + 1)) (N := N + 1) (most := ((m + 1 : Nat) : Int)) (rd := readOf (dataR m)) (text := s) (by omega) (by omega) (by omega) (fun t ht => hR t (by omega)) (good_read (good_data m)).1 (N + 1) 0 0 [] (by omega) (by omega) (by omega) rfl
     rw [show ((0 : Nat) : Int) = 0 from rfl] at this
     rw [this]; rfl
    ·rw [if_neg h3, if_neg h3]
     cases h4 : (ofS code).Sized with
     | false => rfl
     | true =>
      simp only [Bool.not_true, Bool.false_eq_true, if_false, Bool.true_eq_false]
      show (Bavsized (FavRead (N + 1)) (FavData (N + 1)) (Favdescribed (N + 1)) (Favsized (N + 1)) (N + 1) (ofS code) s ((m + 1 : Nat) : Int)).bind _ = _
      rw [sizedF (m := m) (c := ofS code) (by omega) hm hs ((items_shape h1 h2).1 h4).1 (good_data m) hR hD]; rfl
theorem readF' (m N : Nat) (s : List UInt8) (hm : m ≤ 32) (hN : 700200 + 4 * m < N) (hs : s.length ≤ 600) : FavRead N s (m : Int) = some (readOf (dataR m) s) := by
 obtain ⟨N, rfl⟩ : ∃ K, N = K + 1 := ⟨N - 1, by omega⟩
 exact readF hm hs (fun code t ht => dataF m hm N (by omega) code t (by omega))
end
end Go.Av
namespace Go.Av
noncomputable section
open Go.Proofs
set_option maxRecDepth 100000
end
end Go.Av
namespace Go.Av
noncomputable section
open Go.Proofs
set_option maxRecDepth 100000
end
end Go.Av
namespace Go.Av
noncomputable section
open Go.Proofs
set_option maxRecDepth 100000
theorem short {code : Int} {v : SValue} {k : Nat} (hf : fitsC code v = true) (hk : k < (dataS (ofS code) v).length) : getS code ((dataS (ofS code) v).take k) = (zeroV, 0, 3) := by
 have hlen := data_len hf
 obtain ⟨f1, f2, f3, f4⟩ := fitsC_t hf
 obtain ⟨c1, c2, c3, c4, c5, c6, c7⟩ := check_ok f3
 have hw := well code f1
 have hi := items_not hw (by omega)
 have hw0 : ((dataS (ofS code) v).take k).length = k := by rw [List.length_take]; omega
 unfold getS
 rw [f1, hi, if_neg (by simp), hw0]
 split
 ·rfl
 rename_i hkw
 cases hw.shape hi with
 | sized w hs hw' h12 hk2 hc =>
  simp only [hs, hw', if_true, Int.toNat_natCast] at hlen hkw ⊢
  have hkw : w ≤ k := by omega
  have e1 : ((dataS (ofS code) v).take k).take w = bigB v.Text.length w := by
   rw [List.take_take, Nat.min_eq_left hkw]
   unfold dataS
   rw [hs, if_pos rfl, hw', Int.toNat_natCast, List.take_left' (bigB_len _ _)]
  have e3 : v.Text.length % 256 ^ w = v.Text.length := by
   apply Nat.mod_eq_of_lt
   unfold saysS at f4
   rw [if_neg hc, hs, if_pos rfl, hw'] at f4
   rcases h12 with rfl | rfl
   ·simp at f4; omega
   ·omega
  rw [e1, numB_big, e3, if_pos (by omega)]
 | wide hs hw' hk2 hc =>
  simp only [hs, hw', Bool.false_eq_true, if_false] at hlen hkw
  have : (16 : Int).toNat = 16 := rfl
  omega
 | num w hs hw' hh ht hc hbb =>
  simp only [hs, hw', Bool.false_eq_true, if_false] at hlen hkw
  omega
end
end Go.Av
namespace Go.Av
noncomputable section
open Go.Proofs
set_option maxRecDepth 100000
def desc0B (k : Nat) : Bool := !(decide ((tabAt k).2.1 = 25)) || decide ((tabAt k).1 = 0)
theorem desc0_all : ((List.range 40).all desc0B) = true := by decide +kernel
theorem desc0 {code : Int} (h : ofB code = true) (hk : (ofS code).Kind = 25) : code = 0 := by
 have := row_of' (P := fun t => t.2.1 = 25 → t.1 = 0) desc0_all (fun k hk h1 => by simpa [desc0B, h1] using hk) h hk
 rw [← (well code h).code]; exact this
theorem zero_read {d : Int → List UInt8 → Rd} (s : List UInt8) (h : (readOf d s).2.2 ≠ 0) : (readOf d s).1 = zeroV ∧ (readOf d s).2.1 = 0 := by
 cases s with
 | nil => exact ⟨rfl, rfl⟩
 | cons b u =>
  simp only [readOf] at h ⊢
  split at h
  ·rename_i h1; rw [if_pos h1]; exact ⟨rfl, rfl⟩
  ·exact absurd rfl h
/-! what follows does not matter; what is cut is too short -/
theorem read_inv {d : Int → List UInt8 → Rd} {s : List UInt8} (he : (readOf d s).2.2 = 0) : ∃ b u, s = b :: u ∧ (d (b.toNat : Int) u).2.2 = 0 ∧ readOf d s = ((d (b.toNat : Int) u).1, (d (b.toNat : Int) u).2.1 + 1, 0) := by
 cases s with
 | nil => simp [readOf] at he
 | cons b u =>
  have h1 : (d (b.toNat : Int) u).2.2 = 0 := by
   simp only [readOf] at he
   split at he
   ·rename_i h1; exact absurd he h1
   ·rename_i h1; exact Classical.byContradiction h1
  refine ⟨b, u, rfl, h1, ?_⟩
  simp only [readOf]; rw [if_neg (by simp [h1])]
noncomputable def itemsR (d : Int → List UInt8 → Rd) (code : Int) (s : List UInt8) : Rd := if (ofS code).Kind = 25 then descR (readOf d) s else if (ofS code).Sized = false then (⟨(ofS code).Kind, 0, [], []⟩, 0, 0) else sizedR d (ofS code) s
theorem data_leaf {code : Int} (h1 : ofB code = true) (h2 : (ofS code).Items = false) (m : Nat) (s : List UInt8) : dataR m code s = getS code s := by
 cases m <;> simp only [dataR, h1, h2, if_true, if_false, Bool.true_eq_false]
theorem data_items {code : Int} (h1 : ofB code = true) (h2 : (ofS code).Items = true) (m : Nat) (s : List UInt8) : dataR (m + 1) code s = itemsR (dataR m) code s := by
 simp only [dataR, h1, h2, if_false, Bool.true_eq_false]; rfl
theorem data_inv {m : Nat} {code : Int} {s : List UInt8} (he : (dataR m code s).2.2 = 0) : ofB code = true ∧ ((ofS code).Items = false ∨ (ofS code).Items = true ∧ ∃ k, m = k + 1) := by
 have h1 : ofB code = true := by
  cases h : ofB code with
  | true => rfl
  | false => cases m <;> simp [dataR, h] at he
 refine ⟨h1, ?_⟩
 cases h2 : (ofS code).Items with
 | false => exact .inl rfl
 | true =>
  cases m with
  | zero => simp [dataR, h1, h2] at he
  | succ m => exact .inr ⟨rfl, m, rfl⟩
/-! what is read is valid -/
theorem rdAll_items {rd : List UInt8 → Rd} {P : SValue → Prop} (hP : ∀ s, s.length ≤ 400 → (rd s).2.2 = 0 → P (rd s).1) : ∀ (c : Nat) (s : List UInt8) (acc : List SValue), s.length ≤ 400 → (∀ x ∈ acc, P x) → (rdAll rd c s acc).2 = 0 → (∀ x ∈ (rdAll rd c s acc).1.1, P x) ∧ (rdAll rd c s acc).1.1.length = acc.length + c
 | 0, s, acc, _, ha, _ => ⟨by simpa [rdAll] using ha, by simp [rdAll]⟩
 | c + 1, s, acc, hs, ha, h => by
  rw [rdAll] at h ⊢
  split at h
  ·rename_i he; exact absurd h he
  ·rename_i he
   rw [if_neg he]
   have := rdAll_items hP c (s.drop (rd s).2.1.toNat) (acc ++ [(rd s).1]) (by rw [List.length_drop]; omega) (fun x hx => by
    rcases List.mem_append.1 hx with hx | hx
    ·exact ha x hx
    ·rw [List.mem_singleton.1 hx]; exact hP s hs (Classical.byContradiction he)) h
   refine ⟨this.1, ?_⟩
   rw [this.2, List.length_append, List.length_singleton]; omega
theorem checkVs_ok : ∀ (l : List SValue) (k n m : Int), (∀ x ∈ l, checkV x m = 0 ∧ (k = 24 → IntKind.u64.wrap x.Kind = n)) → checkVs l k n m 0 = 0
 | [], _, _, _, _ => by rw [checkVs]
 | x :: l, k, n, m, h => by
  obtain ⟨h1, h2⟩ := h x (by simp)
  rw [checkVs, if_neg (fun hh => hh.2 (h2 hh.1)), if_neg (by simp [h1])]
  exact checkVs_ok l k n m (fun y hy => h y (by simp [hy]))
theorem shaped_ok {k n : Int} {l : List SValue} (h24 : k = 24 → 1 ≤ n ∧ n ≤ 24) (h0 : k ≠ 24 → n = 0) (h25 : k = 25 → l.length = 2) (h23 : k = 23 → l.length % 2 = 0) : shapedS ⟨k, n, [], l⟩ = true := by
 unfold shapedS Favshaped
 simp only [cond_eq, cmpS_neq, eql_t, neq_t, geq_t, rowsV_len]
 rw [if_neg (by simp)]
 by_cases e : k = 24
 ·rw [if_pos e, if_pos (h24 e).1]
  have := (h24 e).2
  simp [leq_t]; exact this
 ·rw [if_neg e, if_neg (by simp [h0 e])]
  by_cases e5 : k = 25
  ·rw [if_pos e5]
   simp [eql_t, h25 e5]
  ·rw [if_neg e5]
   by_cases e3 : k = 23
   ·rw [if_pos e3]
    have := h23 e3
    simp [eql_t, Int.tmod_eq_emod_of_nonneg]; omega
   ·rw [if_neg e3]; rfl
theorem keys_no {k n : Int} {l : List SValue} (h : k ≠ 23) : keysS ⟨k, n, [], l⟩ = 0 := by
 unfold keysS
 rw [if_pos h]
theorem valid_of {k n : Int} {l : List SValue} {m : Nat} (hk : 22 ≤ k ∧ k ≤ 25) (hl : l.length ≤ 1000) (hit : ∀ x ∈ l, Fine x ∧ checkV x m = 0 ∧ (k = 24 → IntKind.u64.wrap x.Kind = n)) (hkeys : keysS ⟨k, n, [], l⟩ = 0)
  (h24 : k = 24 → 1 ≤ n ∧ n ≤ 24) (h0 : k ≠ 24 → n = 0) (h25 : k = 25 → l.length = 2) (h23 : k = 23 → l.length % 2 = 0) : Fine ⟨k, n, [], l⟩ ∧ checkV ⟨k, n, [], l⟩ ((m + 1 : Nat) : Int) = 0 := by
 refine ⟨.mk _ ?_ (by simp) (fun x hx => (hit x hx).1), ?_⟩
 ·by_cases h : k = 24
  ·have := h24 h; exact ⟨by simp only []; omega, by simp only []; omega⟩
  ·have := h0 h; exact ⟨by simp only []; omega, by simp only []; omega⟩
 ·rw [checkV_eq]
  simp only [hkeys, shaped_ok h24 h0 h25 h23]
  rw [if_neg (by omega), if_neg (by omega), if_neg (by omega), if_neg (by omega), if_neg (by simp), if_neg (by omega), show (((m + 1 : Nat) : Int) - 1) = (m : Int) by omega]
  exact checkVs_ok _ _ _ _ (fun x hx => (hit x hx).2)
theorem leaf_valid {code : Int} {s : List UInt8} (m : Int) (hs : s.length ≤ 400) (h : (getS code s).2.2 = 0) : Fine (getS code s).1 ∧ checkV (getS code s).1 m = 0 ∧ (getS code s).1.Kind = (ofS code).Kind := by
 generalize hg : getS code s = g at h ⊢
 obtain ⟨x, n, e⟩ := g
 simp only at h
 subst h
 obtain ⟨h1, h2, h3, h4, h5, h6, h7⟩ := reads (by unfold sane; omega) hg
 obtain ⟨c1, c2, c3, c4, _⟩ := check_ok h5
 show Fine x ∧ checkV x m = 0 ∧ x.Kind = (ofS code).Kind
 refine ⟨.mk _ h3 (by omega) (by simp [c4]), ?_, (fitsC_t h6).2.1.symm⟩
 rw [checkV_eq, if_neg (by omega), if_neg (by omega), if_pos (by omega)]; exact h5
theorem read_valid : ∀ (m : Nat) (code : Int) (s : List UInt8), s.length ≤ 400 → (dataR m code s).2.2 = 0 → Fine (dataR m code s).1 ∧ checkV (dataR m code s).1 m = 0 ∧ (dataR m code s).1.Kind = (ofS code).Kind := by
 intro m
 induction m with
 | zero =>
  intro code s hs he
  obtain ⟨h1, h2 | ⟨h2, k, hk⟩⟩ := data_inv he
  ·rw [data_leaf h1 h2] at he ⊢
   exact leaf_valid _ hs he
  ·omega
 | succ m ih =>
  intro code s hs he
  obtain ⟨h1, h2 | ⟨h2, k, hk⟩⟩ := data_inv he
  ·rw [data_leaf h1 h2] at he ⊢
   exact leaf_valid _ hs he
  rw [data_items h1 h2] at he ⊢
  have hsh := items_shape h1 h2
  have hrd : ∀ s : List UInt8, s.length ≤ 400 → (readOf (dataR m) s).2.2 = 0 → Fine (readOf (dataR m) s).1 ∧ checkV (readOf (dataR m) s).1 m = 0 := fun s hs he => by
   obtain ⟨b, u, rfl, e1, e2⟩ := read_inv he
   have := ih b.toNat u (by simp at hs; omega) e1
   rw [e2]; exact ⟨this.1, this.2.1⟩
  unfold itemsR at he ⊢
  by_cases k25 : (ofS code).Kind = 25
  ·rw [if_pos k25] at he ⊢
   have e1 : (rdAll (readOf (dataR m)) 2 s []).2 = 0 := by
    unfold descR at he
    split at he
    ·exact he
    ·rename_i h1; exact Classical.byContradiction h1
   obtain ⟨i1, i2⟩ := rdAll_items (P := fun x => Fine x ∧ checkV x m = 0) hrd 2 s [] hs (by simp) e1
   unfold descR
   rw [if_neg (by simp [e1]), k25]
   simp only []
   have hl2 : (rdAll (readOf (dataR m)) 2 s []).1.1.length = 2 := by simpa using i2
   have := valid_of (k := 25) (n := 0) (l := (rdAll (readOf (dataR m)) 2 s []).1.1) (m := m) (by omega) (by omega) (fun x hx => ⟨(i1 x hx).1, (i1 x hx).2, fun h => by omega⟩) (keys_no (by omega)) (by omega) (fun _ => rfl) (fun _ => hl2) (by omega)
   exact ⟨this.1, this.2, trivial⟩
  rw [if_neg k25] at he ⊢
  by_cases hsz : (ofS code).Sized = false
  ·rw [if_pos hsz] at he ⊢
   have hk : (ofS code).Kind = 22 := by have := hsh.2 hsz; omega
   rw [hk]
   have := valid_of (k := 22) (n := 0) (l := []) (m := m) (by omega) (by simp) (by simp) (keys_no (by omega)) (by omega) (fun _ => rfl) (by omega) (by omega)
   exact ⟨this.1, this.2, rfl⟩
  rw [if_neg hsz] at he ⊢
  have hsz : (ofS code).Sized = true := by
   cases h : (ofS code).Sized with
   | true => rfl
   | false => exact absurd h hsz
  obtain ⟨body, num, q, cnt, rest, p1, p2, p3, p4, p5, p6, p7, p8⟩ := sized_ok he
  obtain ⟨f1, f2, f3, f4⟩ := fin2_ok p7
  rw [p8, f4]
  have hk := (hsh.1 hsz).2
  have hbl2 : body.length ≤ s.length := by
   rw [p2]
   exact Nat.le_trans (List.length_take_le' _ _) (by rw [List.length_drop]; exact Nat.sub_le _ _)
  rcases p5 with ⟨q0, q1, q2, q3⟩ | ⟨q0, b, q1, q2, q3, q4, q5⟩
  ·have hrl : rest.length ≤ body.length := by rw [q2, List.length_drop]; omega
   rw [q3] at f1
   obtain ⟨i1, i2⟩ := rdAll_items (P := fun x => Fine x ∧ checkV x m = 0) hrd cnt rest [] (by omega) (by simp) f1
   rw [← q3] at i1 i2
   have hlc : q.1.1.length = cnt := by simpa using i2
   have := valid_of (k := (ofS code).Kind) (n := num) (l := q.1.1) (m := m) (by omega) (by omega) (fun x hx => ⟨(i1 x hx).1, (i1 x hx).2, fun h => absurd h q0⟩) f3 (fun h => absurd h q0) (fun _ => q1) (by omega) (fun h => by rw [hlc]; exact p6 h)
   exact ⟨this.1, this.2, rfl⟩
  ·have hrl : rest.length ≤ body.length := by
    have := congrArg List.length q1
    rw [List.length_drop, List.length_cons] at this; omega
   rw [q5] at f1
   obtain ⟨i1, i2⟩ := rdAll_items (P := fun x => Fine x ∧ checkV x m = 0 ∧ x.Kind = (ofS (b.toNat : Int)).Kind) (ih (b.toNat : Int)) cnt rest [] (by omega) (by simp) f1
   rw [← q5] at i1 i2
   have hlc : q.1.1.length = cnt := by simpa using i2
   have hbk := (well _ q2).kind
   have hb25 : (ofS (b.toNat : Int)).Kind ≠ 25 := fun h => q3 (by have := desc0 q2 h; omega)
   have := valid_of (k := (ofS code).Kind) (n := num) (l := q.1.1) (m := m) (by omega) (by omega) (fun x hx => ⟨(i1 x hx).1, (i1 x hx).2.1, fun _ => by rw [(i1 x hx).2.2, q4, wrapU]; omega⟩) f3 (fun _ => by rw [q4]; omega) (fun h => absurd q0 h) (by omega) (by omega)
   exact ⟨this.1, this.2, rfl⟩
end
end Go.Av
