/- The law. Part of a proof of a given statement: for every input the law returns true and the arguments read as before; no condition beyond the given row. -/
import Derived.Test.YtgalebkdefaonaaDoorLiftF3
import Derived.Test.YtgalebkdefaonaaDoorAvLift
namespace Go.Av
noncomputable section
open Go.Proofs
theorem cond_eq {α : Type} (b : Bool) (x y : α) : cond b x y = if b = true then x else y := by cases b <;> rfl
@[simp] theorem lss_t (x y : Int) : (cmpI .lss x y = true) = (x < y) := by simp [cmpI]
@[simp] theorem leq_t (x y : Int) : (cmpI .leq x y = true) = (x ≤ y) := by simp [cmpI]
@[simp] theorem gtr_t (x y : Int) : (cmpI .gtr x y = true) = (x > y) := by simp [cmpI]
@[simp] theorem geq_t (x y : Int) : (cmpI .geq x y = true) = (x ≥ y) := by simp [cmpI]
@[simp] theorem eql_t (x y : Int) : (cmpI .eql x y = true) = (x = y) := by simp [cmpI]
@[simp] theorem neq_t (x y : Int) : (cmpI .neq x y = true) = (x ≠ y) := by simp [cmpI]
theorem wrap64 (x : Int) (h : -9223372036854775808 ≤ x ∧ x ≤ 9223372036854775807) : IntKind.wrap .i64 x = x := IntWalk.i64_in x h
theorem Pick_eq (N : Nat) (n m : Int) (h1 : 1 ≤ m) (h2 : m ≤ 4611686018427387904) : F_polyglotkit_Pick N n m = some (n % m) := by
  unfold F_polyglotkit_Pick
  simp only [cond_eq, lss_t, Bool.not_eq_true', beq_eq_false_iff_ne]
  rw [if_neg (by omega), if_pos (by omega)]
  have hm := Int.tmod_eq_emod (a := n) (b := m)
  have h3 := Int.emod_nonneg n (show m ≠ 0 by omega)
  have h4 := Int.emod_lt_of_pos n (show 0 < m by omega)
  split
  · rename_i h
    have e : n.tmod m + m = n % m := by
      rw [hm] at h ⊢
      split at h <;> rename_i hc
      · omega
      · rw [if_neg hc]
        have : (m.natAbs : Int) = m := by omega
        omega
    rw [e, wrap64 _ (by omega)]
  · rename_i h
    have e : n.tmod m = n % m := by
      rw [hm] at h ⊢
      split at h <;> rename_i hc
      · rw [if_pos hc]; omega
      · have : (m.natAbs : Int) = m := by omega
        rw [if_neg hc]
        omega
    rw [e]

mutual
/-- how many values there are in one -/
def SValue.sz : SValue → Nat
  | .mk _ _ _ is => 1 + SValue.szs is
def SValue.szs : List SValue → Nat
  | [] => 0
  | v :: l => v.sz + SValue.szs l
end
theorem SValue.sz_eq (v : SValue) : v.sz = 1 + SValue.szs v.Items := by cases v; simp [SValue.sz]
theorem SValue.szs_len : ∀ l : List SValue, l.length ≤ SValue.szs l
  | [] => by simp
  | v :: l => by
    have h1 := SValue.szs_len l
    have h2 := SValue.sz_eq v
    simp only [SValue.szs, List.length_cons]
    omega
theorem SValue.szs_mem : ∀ (l : List SValue) (v : SValue), v ∈ l → v.sz ≤ SValue.szs l
  | [], v, h => by cases h
  | u :: l, v, h => by
    simp only [SValue.szs]
    rcases List.mem_cons.1 h with rfl | h
    · omega
    · have := SValue.szs_mem l v h; omega
noncomputable instance : DecidableEq SValue := fun a b => Classical.propDecidable (a = b)
theorem rowsV_len (l : List SValue) : (SValue.rows l).length = l.length := by rw [SValue.rows_eq, rowsC_length]
theorem idx_nat {α : Type} (l : List α) (i : Nat) : idx l (i : Int) = l[i]? := rfl
theorem SameValue_L0 {R : SValue → SValue → Option Bool} {N : Nat} {a b : SValue} (hlen : a.Items.length = b.Items.length) (hb : a.Items.length < 4611686018427387904)
    (hR : ∀ y ∈ a.Items, ∀ z, R y z = some (decide (y = z))) : ∀ (n i : Nat), i ≤ a.Items.length → a.Items.length - i < n →
    B_polyglotkit_SameValue_L0 R N a b n (i : Int) = some (decide (a.Items.drop i = b.Items.drop i))
  | 0, i, _, h => by omega
  | n + 1, i, h1, h2 => by
    simp only [B_polyglotkit_SameValue_L0, cond_eq, lss_t, rowsV_len]
    by_cases hi : i < a.Items.length
    · rw [if_pos (by omega), idx_nat, idx_nat, List.getElem?_eq_getElem hi, List.getElem?_eq_getElem (show i < b.Items.length by omega)]
      simp only [Option.bind_some, hR _ (List.getElem_mem hi)]
      rw [wrap64 _ (by omega)]
      have ih := SameValue_L0 (N := N) hlen hb hR n (i + 1) (by omega) (by omega)
      rw [List.drop_eq_getElem_cons hi, List.drop_eq_getElem_cons (show i < b.Items.length by omega)]
      by_cases he : a.Items[i] = b.Items[i]
      · rw [← he]; simp only [decide_true, Bool.not_true, Bool.false_eq_true, if_false, List.cons.injEq, true_and]
        exact_mod_cast ih
      · have hne : ¬ (a.Items[i] :: List.drop (i + 1) a.Items = b.Items[i] :: List.drop (i + 1) b.Items) := fun e => he (List.cons.inj e).1
        simp only [he, decide_false, Bool.not_false, if_true]
        rw [decide_eq_false hne]
    · rw [if_neg (by omega), List.drop_of_length_le (by omega), List.drop_of_length_le (by omega)]
      simp
theorem cmpS_neq (x y : List UInt8) : (cmpS .neq x y = true) = (x ≠ y) := by simp [cmpS]
theorem SameValue_eq : ∀ (N : Nat) (a b : SValue), a.sz < N → a.sz < 1000000 → F_polyglotkit_SameValue N a b = some (decide (a = b))
  | 0, a, b, h, _ => by have := a.sz_eq; omega
  | N + 1, a, b, h, h2 => by
    have hs := a.sz_eq
    have hl := SValue.szs_len a.Items
    simp only [F_polyglotkit_SameValue, B_polyglotkit_SameValue, cond_eq, neq_t, cmpS_neq, rowsV_len]
    by_cases e1 : a.Kind = b.Kind
    · by_cases e2 : a.N' = b.N'
      · by_cases e3 : a.Text = b.Text
        · by_cases e4 : a.Items.length = b.Items.length
          · rw [if_neg (by simp [e1]), if_neg (by simp [e2]), if_neg (by simp [e3]), if_neg (by simp [e4])]
            have := SameValue_L0 (N := N) (R := F_polyglotkit_SameValue N) e4 (by omega) (fun y hy z => SameValue_eq N y z (by have := SValue.szs_mem _ y hy; omega) (by have := SValue.szs_mem _ y hy; omega)) N 0 (by omega) (by omega)
            rw [show (0 : Int) = ((0 : Nat) : Int) from rfl, this]
            cases a; cases b; simp_all
          · rw [if_neg (by simp [e1]), if_neg (by simp [e2]), if_neg (by simp [e3]), if_pos (by omega)]
            have : a ≠ b := fun e => e4 (by rw [e])
            simp [this]
        · rw [if_neg (by simp [e1]), if_neg (by simp [e2]), if_pos (by simpa using e3)]
          have : a ≠ b := fun e => e3 (by rw [e])
          simp [this]
      · rw [if_neg (by simp [e1]), if_pos (by simpa using e2)]
        have : a ≠ b := fun e => e2 (by rw [e])
        simp [this]
    · rw [if_pos (by simpa using e1)]
      have : a ≠ b := fun e => e1 (by rw [e])
      simp [this]
end
end Go.Av
namespace Go.Av
noncomputable section
open Go.Proofs
mutual
/-- texts of 400 bytes at most, all within -/
def SValue.txt : SValue → Prop
  | .mk _ _ t is => t.length ≤ 400 ∧ SValue.txts is
def SValue.txts : List SValue → Prop
  | [] => True
  | v :: l => v.txt ∧ SValue.txts l
end
theorem SValue.txt_eq (v : SValue) : v.txt = (v.Text.length ≤ 400 ∧ SValue.txts v.Items) := by cases v; simp [SValue.txt]
theorem SValue.szs_app : ∀ l m : List SValue, SValue.szs (l ++ m) = SValue.szs l + SValue.szs m
  | [], m => by simp [SValue.szs]
  | v :: l, m => by simp [SValue.szs, SValue.szs_app l m]; omega
theorem SValue.txts_app : ∀ l m : List SValue, SValue.txts (l ++ m) = (SValue.txts l ∧ SValue.txts m)
  | [], m => by simp [SValue.txts]
  | v :: l, m => by simp [SValue.txts, SValue.txts_app l m, and_assoc]
theorem nodes_L0 {R : SValue → Int → Int → Option Int} {N : Nat} {v : SValue} {deep most : Int} (hd : 0 ≤ deep ∧ deep ≤ 6) (hm : 0 ≤ most ∧ most ≤ 40) (hl : (v.Items.length : Int) ≤ most)
    (hR : ∀ y (m : Int), 0 ≤ m → m ≤ 40 → ∃ r, R y (deep - 1) m = some r ∧ 1 ≤ r ∧ r ≤ m + 1 ∧ (r ≤ m → r = y.sz ∧ y.txt)) : ∀ (n : Nat) (k : Int) (i : Nat), i ≤ v.Items.length → v.Items.length - i < n →
    1 ≤ k → k ≤ most + 1 → (k ≤ most → k = 1 + SValue.szs (v.Items.take i) ∧ SValue.txts (v.Items.take i)) →
    ∃ r, B_polyglotkit_nodes_L0 R N v deep most n k (i : Int) = some r ∧ 1 ≤ r ∧ r ≤ most + 1 ∧ (r ≤ most → r = 1 + SValue.szs v.Items ∧ SValue.txts v.Items)
  | 0, _, _, _, h, _, _, _ => by omega
  | n + 1, k, i, h1, h2, hk1, hk2, hk3 => by
    simp only [B_polyglotkit_nodes_L0, cond_eq, lss_t, leq_t, rowsV_len]
    by_cases hi : i < v.Items.length
    · rw [if_pos (by omega)]
      by_cases hkm : k ≤ most
      · rw [if_pos hkm, idx_nat, List.getElem?_eq_getElem hi, wrap64 (deep - 1) (by omega), wrap64 (most - k) (by omega)]
        obtain ⟨r, r1, r2, r3, r4⟩ := hR v.Items[i] (most - k) (by omega) (by omega)
        simp only [Option.bind_some, r1]
        rw [wrap64 (k + r) (by omega), wrap64 ((i : Int) + 1) (by omega)]
        have := nodes_L0 (N := N) hd hm hl hR n (k + r) (i + 1) (by omega) (by omega) (by omega) (by omega) (fun h => by
          obtain ⟨q1, q2⟩ := r4 (by omega)
          obtain ⟨q3, q4⟩ := hk3 hkm
          rw [List.take_succ_eq_append_getElem hi, SValue.szs_app, SValue.txts_app]
          refine ⟨?_, q4, ?_⟩
          · simp only [SValue.szs]; omega
          · simp only [SValue.txts]; exact ⟨q2, trivial⟩)
        exact_mod_cast this
      · rw [if_neg hkm]
        exact ⟨k, rfl, hk1, hk2, fun h => absurd h hkm⟩
    · rw [if_neg (by omega)]
      refine ⟨k, rfl, hk1, hk2, fun h => ?_⟩
      have := hk3 h
      rwa [List.take_of_length_le (by omega)] at this
theorem nodes_spec : ∀ (N : Nat) (v : SValue) (deep most : Int), -1 ≤ deep → deep ≤ 6 → 0 ≤ most → most ≤ 40 → deep + 50 < N →
    ∃ r, F_polyglotkit_nodes N v deep most = some r ∧ 1 ≤ r ∧ r ≤ most + 1 ∧ (r ≤ most → r = v.sz ∧ v.txt)
  | 0, v, deep, most, h1, h2, h3, h4, h5 => by omega
  | N + 1, v, deep, most, h1, h2, h3, h4, h5 => by
    simp only [F_polyglotkit_nodes, B_polyglotkit_nodes, cond_eq, lss_t, gtr_t, rowsV_len, wrap64 (most + 1) (show _ by omega)]
    by_cases e1 : deep < 0
    · rw [if_pos e1]; exact ⟨_, rfl, by omega, by omega, fun h => by omega⟩
    rw [if_neg e1]
    by_cases e2 : (v.Items.length : Int) > most
    · rw [if_pos e2]; exact ⟨_, rfl, by omega, by omega, fun h => by omega⟩
    rw [if_neg e2]
    by_cases e3 : (v.Text.length : Int) > 400
    · rw [if_pos e3]; exact ⟨_, rfl, by omega, by omega, fun h => by omega⟩
    rw [if_neg e3]
    have := nodes_L0 (N := N) (R := F_polyglotkit_nodes N) (v := v) (deep := deep) (most := most) ⟨by omega, h2⟩ ⟨h3, h4⟩ (by omega)
      (fun y m hm1 hm2 => nodes_spec N y (deep - 1) m (by omega) (by omega) hm1 hm2 (by omega)) N 1 0 (by omega) (by omega) (by omega) (by omega) (fun _ => by simp [SValue.szs, SValue.txts])
    obtain ⟨r, r1, r2, r3, r4⟩ := this
    refine ⟨r, r1, r2, r3, fun h => ?_⟩
    obtain ⟨q1, q2⟩ := r4 h
    have hs := v.sz_eq
    rw [SValue.txt_eq]
    exact ⟨by omega, by omega, q2⟩
theorem Light_spec (N : Nat) (v : SValue) (h : 60 < N) : ∃ b, F_polyglotkit_LightValue N v = some b ∧ (b = true → v.sz ≤ 40 ∧ v.txt) := by
  obtain ⟨r, r1, r2, r3, r4⟩ := nodes_spec N v 6 40 (by omega) (by omega) (by omega) (by omega) (by omega)
  refine ⟨cmpI .leq r 40, by simp [F_polyglotkit_LightValue, r1], fun h => ?_⟩
  rw [leq_t] at h
  obtain ⟨q1, q2⟩ := r4 h
  exact ⟨by omega, q2⟩
end
end Go.Av
namespace Go.Av
noncomputable section
open Go.Proofs
def bitsS (k : Int) : Int × Bool :=
  if k = 2 then (1, false) else if k = 3 then (8, false) else if k = 4 then (16, false)
  else if k = 5 ∨ k = 11 ∨ k = 13 ∨ k = 16 then (32, false) else if k = 6 ∨ k = 12 ∨ k = 14 then (64, false)
  else if k = 7 then (8, true) else if k = 8 then (16, true) else if k = 9 then (32, true) else if k = 10 ∨ k = 17 then (64, true) else (0, false)
theorem bits_eq (N : Nat) (k : Int) : F_amqprim_bits N k = some (bitsS k) := by
  by_cases h2 : k = 2
  · subst h2; rfl
  by_cases h3 : k = 3
  · subst h3; rfl
  by_cases h4 : k = 4
  · subst h4; rfl
  by_cases h5 : k = 5
  · subst h5; rfl
  by_cases h11 : k = 11
  · subst h11; rfl
  by_cases h13 : k = 13
  · subst h13; rfl
  by_cases h16 : k = 16
  · subst h16; rfl
  by_cases h6 : k = 6
  · subst h6; rfl
  by_cases h12 : k = 12
  · subst h12; rfl
  by_cases h14 : k = 14
  · subst h14; rfl
  by_cases h7 : k = 7
  · subst h7; rfl
  by_cases h8 : k = 8
  · subst h8; rfl
  by_cases h9 : k = 9
  · subst h9; rfl
  by_cases h10 : k = 10
  · subst h10; rfl
  by_cases h17 : k = 17
  · subst h17; rfl
  unfold F_amqprim_bits bitsS
  simp [cond_eq, h2, h3, h4, h5, h11, h13, h16, h6, h12, h14, h7, h8, h9, h10, h17]
def textS (k : Int) : Bool := decide (k = 15 ∨ k = 18 ∨ k = 19 ∨ k = 20 ∨ k = 21)
theorem textual_eq (N : Nat) (k : Int) : F_amqprim_textual N k = some (textS k) := by
  unfold F_amqprim_textual textS
  simp only [cond_eq, eql_t]
  repeat' split
  all_goals simp_all
def charS (n : Int) : Bool := decide (n ≤ 1114111 ∧ ¬ (55296 ≤ n ∧ n ≤ 57343))
theorem codePoint_eq (N : Nat) (n : Int) (h0 : 0 ≤ n) : F_amqprim_codePoint N n = some (charS n) := by
  unfold F_amqprim_codePoint F_unicode_utf8_ValidRune charS
  simp only [cond_eq, leq_t, lss_t]
  by_cases h : n ≤ 1114111
  · have hw : IntKind.wrap .i32 n = n := by
      simp only [IntKind.wrap, IntKind.bits, IntKind.signed]
      simp
      omega
    rw [if_pos h, hw]
    repeat' split
    all_goals (simp; omega)
  · rw [if_neg h]
    simp [h]
/-- the number that 64 bits are, signed -/
def s64 (n : Int) : Int := if n < 9223372036854775808 then n else n - 18446744073709551616
theorem wrap_s64 (n : Int) (h0 : 0 ≤ n) (h1 : n < 18446744073709551616) : IntKind.i64.wrap n = s64 n := by
  unfold s64
  split
  · exact IntWalk.i64_in n (by omega)
  · simp only [IntKind.wrap, IntKind.bits, IntKind.signed]
    simp
    omega
def fitsS (n bits : Int) (signed : Bool) : Bool := if signed then decide (-(2 ^ (bits.toNat - 1)) ≤ s64 n ∧ s64 n < 2 ^ (bits.toNat - 1)) else decide (n < 2 ^ bits.toNat)
theorem two_pow_le {m k : Nat} (h : m ≤ k) : (2 : Int) ^ m ≤ 2 ^ k := by
  have := Nat.pow_le_pow_right (n := 2) (by omega) h
  exact_mod_cast this
theorem two_pow_pos (m : Nat) : (1 : Int) ≤ 2 ^ m := by
  have := Nat.one_le_two_pow (n := m)
  exact_mod_cast this
theorem shl_low (k : Int) (h0 : 0 ≤ k) (h1 : k ≤ 63) : IntKind.i64.wrap (-1 * 2 ^ min (IntKind.i64.wrap k).toNat IntKind.i64.bits) = -(2 ^ k.toNat) := by
  have e1 : IntKind.i64.wrap k = k := IntWalk.i64_in _ (by omega)
  have e2 : min k.toNat IntKind.i64.bits = k.toNat := by simp [IntKind.bits]; omega
  have h2 := two_pow_le (m := k.toNat) (k := 63) (by omega)
  have h3 := two_pow_pos k.toNat
  rw [e1, e2, IntWalk.i64_in _ (by omega)]
  omega
theorem fitsBits_eq (N : Nat) (n bits : Int) (signed : Bool) (h0 : 0 ≤ n) (h1 : n < 18446744073709551616) (hb0 : 0 ≤ bits) (hb1 : bits ≤ 64) (hs : signed = true → 1 ≤ bits) :
    F_amqprim_fitsBits N n bits signed = some (fitsS n bits signed) := by
  unfold F_amqprim_fitsBits
  cases signed
  · simp only [cond_eq, eql_t, Bool.false_eq_true, if_false, decide_eq_true_eq]
    by_cases h : bits = 64
    · rw [if_pos h]
      subst h
      simp only [fitsS, Bool.false_eq_true, if_false, Option.some.injEq]
      exact (decide_eq_true (by simpa using h1)).symm
    · rw [if_neg h, if_pos hb0]
      simp only [fitsS, Bool.false_eq_true, if_false, Option.some.injEq, cmpI, shrI]
      have e2 : min bits.toNat IntKind.u64.bits = bits.toNat := by simp [IntKind.bits]; omega
      rw [e2, Bool.eq_iff_iff]
      simp only [beq_iff_eq, decide_eq_true_eq]
      have h3 := two_pow_pos bits.toNat
      rw [Int.fdiv_eq_ediv_of_nonneg _ (by omega)]
      constructor
      · intro h4
        have := Int.lt_ediv_add_one_mul_self n (show (0 : Int) < 2 ^ bits.toNat by omega)
        rw [h4] at this
        simpa using this
      · intro h4
        exact Int.ediv_eq_zero_of_lt h0 h4
  · have hs := hs rfl
    have e1 : IntKind.i64.wrap (bits - 1) = bits - 1 := IntWalk.i64_in _ (by omega)
    have e2 := shl_low (bits - 1) (by omega) (by omega)
    have e3 := wrap_s64 n h0 h1
    have h2 := two_pow_le (m := (bits - 1).toNat) (k := 63) (by omega)
    have h3 := two_pow_pos (bits - 1).toNat
    have e4 : (bits - 1).toNat = bits.toNat - 1 := by omega
    rw [e1] at e2
    simp only [cond_eq, geq_t, if_true, decide_eq_true_eq, shlI, e1, e2, e3]
    rw [if_pos (by omega), IntWalk.i64_in (-2 ^ (bits - 1).toNat + 1) (by omega), IntWalk.i64_in (0 - (-2 ^ (bits - 1).toNat + 1)) (by omega)]
    rw [e4] at h2 h3 ⊢
    split
    · rename_i h
      simp only [fitsS, if_true, Option.some.injEq, cmpI, decide_eq_decide]
      omega
    · rename_i h
      simp only [fitsS, if_true, Option.some.injEq]
      exact (decide_eq_false (by omega)).symm
end
end Go.Av
namespace Go.Av
noncomputable section
/-- the number that bytes are, the highest first -/
def numB (s : List UInt8) : Nat := s.foldl (fun a b => a * 256 + b.toNat) 0
theorem numB_app1 (s : List UInt8) (b : UInt8) : numB (s ++ [b]) = numB s * 256 + b.toNat := by simp [numB]
/-- a number's lowest bytes, the highest first -/
def bigB : Nat → Nat → List UInt8
  | _, 0 => []
  | n, w + 1 => bigB (n / 256) w ++ [UInt8.ofNat (n % 256)]
theorem bigB_len : ∀ (w n : Nat), (bigB n w).length = w
  | 0, _ => rfl
  | w + 1, n => by simp [bigB, bigB_len w]
theorem numB_big : ∀ (w n : Nat), numB (bigB n w) = n % 256 ^ w
  | 0, n => by simp [bigB, numB, Nat.mod_one]
  | w + 1, n => by
    rw [bigB, numB_app1, numB_big w, Nat.pow_succ, Nat.mul_comm (256 ^ w) 256, Nat.mod_mul]
    have : (UInt8.ofNat (n % 256)).toNat = n % 256 := by simp
    rw [this]; omega
theorem revInd {α : Type} {P : List α → Prop} (h0 : P []) (h1 : ∀ s b, P s → P (s ++ [b])) (s : List α) : P s := by
  have h : ∀ t : List α, P t.reverse := by
    intro t
    induction t with
    | nil => exact h0
    | cons b t ih => rw [List.reverse_cons]; exact h1 _ _ ih
  have := h s.reverse
  rwa [List.reverse_reverse] at this
theorem numB_lt : ∀ (s : List UInt8), numB s < 256 ^ s.length := by
  refine revInd (by simp [numB]) (fun s b ih => ?_)
  · rw [numB_app1, List.length_append, List.length_singleton, Nat.pow_succ]
    have := b.toNat_lt
    simp at this
    omega
theorem big_num : ∀ (s : List UInt8), bigB (numB s) s.length = s := by
  refine revInd rfl (fun s b ih => ?_)
  · rw [numB_app1, List.length_append, List.length_singleton, bigB]
    have hb := b.toNat_lt
    simp at hb
    rw [show (numB s * 256 + b.toNat) / 256 = numB s by omega, ih, show (numB s * 256 + b.toNat) % 256 = b.toNat by omega]
    simp
theorem bigB_mod : ∀ (w n : Nat), bigB (n % 256 ^ w) w = bigB n w
  | 0, n => rfl
  | w + 1, n => by
    have h := bigB_mod w (n / 256)
    rw [bigB, bigB, Nat.pow_succ, Nat.mul_comm (256 ^ w) 256, Nat.mod_mul]
    rw [show (n % 256 + 256 * (n / 256 % 256 ^ w)) / 256 = n / 256 % 256 ^ w by omega, h, show (n % 256 + 256 * (n / 256 % 256 ^ w)) % 256 = n % 256 by omega]
theorem bigB_inj (w n m : Nat) (h : bigB n w = bigB m w) : n % 256 ^ w = m % 256 ^ w := by
  have := congrArg numB h
  rwa [numB_big, numB_big] at this
end
end Go.Av
namespace Go.Av
noncomputable section
open Go.Proofs
def inB (s : List UInt8) (i lo hi : Nat) : Bool := match s[i]? with
  | some b => decide (lo ≤ b.toNat ∧ b.toNat ≤ hi)
  | none => false
/-- how many bytes the code point at the head has; 0: it is none -/
def cpN (s : List UInt8) : Nat := match s with
  | [] => 0
  | c :: _ => if c.toNat < 128 then 1
    else if 194 ≤ c.toNat ∧ c.toNat ≤ 223 then (if inB s 1 128 191 then 2 else 0)
    else if c.toNat = 224 then (if inB s 1 160 191 && inB s 2 128 191 then 3 else 0)
    else if c.toNat = 237 then (if inB s 1 128 159 && inB s 2 128 191 then 3 else 0)
    else if 225 ≤ c.toNat ∧ c.toNat ≤ 239 then (if inB s 1 128 191 && inB s 2 128 191 then 3 else 0)
    else if c.toNat = 240 then (if inB s 1 144 191 && inB s 2 128 191 && inB s 3 128 191 then 4 else 0)
    else if 241 ≤ c.toNat ∧ c.toNat ≤ 243 then (if inB s 1 128 191 && inB s 2 128 191 && inB s 3 128 191 then 4 else 0)
    else if c.toNat = 244 then (if inB s 1 128 143 && inB s 2 128 191 && inB s 3 128 191 then 4 else 0)
    else 0
def validN : Nat → List UInt8 → Bool
  | 0, s => s.isEmpty
  | n + 1, s => if s.isEmpty then true else match cpN s with
    | 0 => false
    | k + 1 => validN n (s.drop (k + 1))
/-- is a text UTF-8? -/
def validF (s : List UInt8) : Bool := validN s.length s
theorem validN_eq : ∀ (n m : Nat) (s : List UInt8), s.length ≤ n → s.length ≤ m → validN n s = validN m s
  | 0, 0, s, _, _ => rfl
  | 0, m + 1, s, h, _ => by
    have : s = [] := List.length_eq_zero_iff.1 (by omega)
    subst this; simp [validN]
  | n + 1, 0, s, _, h => by
    have : s = [] := List.length_eq_zero_iff.1 (by omega)
    subst this; simp [validN]
  | n + 1, m + 1, s, h1, h2 => by
    simp only [validN]
    cases s with
    | nil => rfl
    | cons c r =>
      simp only [List.isEmpty_cons, Bool.false_eq_true, if_false]
      split
      · rfl
      · exact validN_eq n m _ (by simp at h1 ⊢; omega) (by simp at h2 ⊢; omega)
theorem valid_nil : validF [] = true := rfl
theorem valid_bad (s : List UInt8) (hne : s ≠ []) (h : cpN s = 0) : validF s = false := by
  cases s with
  | nil => exact absurd rfl hne
  | cons c r => unfold validF; simp only [List.length_cons, validN, h]; rfl
theorem valid_step (s : List UInt8) (k : Nat) (h : cpN s = k + 1) : validF s = validF (s.drop (k + 1)) := by
  cases s with
  | nil => simp [cpN] at h
  | cons c r =>
    unfold validF
    simp only [List.length_cons, validN, h, List.isEmpty_cons, Bool.false_eq_true, if_false]
    exact validN_eq _ _ _ (by simp) (by simp)
theorem valid_ascii : ∀ (k : Nat) (s : List UInt8), (∀ b ∈ s.take k, b < 128) → validF s = validF (s.drop k)
  | 0, s, _ => by simp
  | k + 1, [], _ => by simp
  | k + 1, c :: r, h => by
    have hc : c < 128 := h c (by simp)
    have h1 : cpN (c :: r) = 1 := by simp only [cpN]; rw [if_pos (by exact hc)]
    rw [valid_step (c :: r) 0 h1]
    simpa using valid_ascii k r (fun b hb => h b (by simp [hb]))
def asciiF (s : List UInt8) : Bool := s.all fun b => decide (b.toNat < 128)
def okNum (k n : Int) : Bool := fitsS n (bitsS k).1 (bitsS k).2 && (k != 16 || charS n)
def textE (k : Int) (t : List UInt8) : Int := if k = 20 then (if validF t then 0 else 6) else if k = 21 then (if asciiF t then 0 else 6) else 0
/-- why a scalar may not be -/
def checkS (v : SValue) : Int :=
  if v.Kind < 1 ∨ 21 < v.Kind then 8
  else if okNum v.Kind v.N' = false ∨ v.Items ≠ [] then 2
  else if textS v.Kind = false then (if v.Text ≠ [] then 2 else 0)
  else if (v.Kind = 15 ∨ v.Kind = 18) ∧ v.Text.length ≠ 16 then 2
  else if 1048576 < v.Text.length then 4 else textE v.Kind v.Text
def saysS (c : SCtor) (v : SValue) : Bool :=
  if c.Code = 65 then decide (v.N' = 1) else if c.Sized then decide (c.Width = 4 ∨ v.Text.length ≤ 255)
  else if c.Width = 0 then decide (v.N' = 0) else if c.Width = 1 then fitsS v.N' 8 (bitsS c.Kind).2 else true
def fitsC (code : Int) (v : SValue) : Bool := ofB code && decide ((ofS code).Kind = v.Kind) && decide (checkS v = 0) && saysS (ofS code) v
def dataS (c : SCtor) (v : SValue) : List UInt8 :=
  if c.Sized then bigB v.Text.length c.Width.toNat ++ v.Text else if c.Width = 16 then v.Text else bigB v.N'.toNat c.Width.toNat
def putS (code : Int) (v : SValue) : List UInt8 × Int :=
  if checkS v ≠ 0 then ([], checkS v) else if fitsC code v = false then ([], 2) else (dataS (ofS code) v, 0)
def orL : Option Int → Int × Int
  | some c => (c, 0)
  | none => (0, 2)
def leastS (v : SValue) : Int × Int :=
  if checkS v ≠ 0 then (0, checkS v) else orL ((codesF v.Kind).find? (fun c => fitsC c v))
def widenS (c : SCtor) (n : Int) : Int := if (bitsS c.Kind).2 = true ∧ 0 < c.Width ∧ 2 ^ (8 * c.Width.toNat - 1) ≤ n then n + (18446744073709551616 - 2 ^ (8 * c.Width.toNat)) else n
def zeroV : SValue := ⟨0, 0, [], []⟩
def finS (v : SValue) (n : Int) : SValue × Int × Int := if checkS v = 0 then (v, n, 0) else (zeroV, 0, if checkS v = 2 then 5 else checkS v)
def getS (code : Int) (s : List UInt8) : SValue × Int × Int :=
  if ofB code = false ∨ (ofS code).Items = true then (zeroV, 0, 8)
  else if (s.length : Int) < (ofS code).Width then (zeroV, 0, 3)
  else if (ofS code).Sized = true then
    if s.length - (ofS code).Width.toNat < numB (s.take (ofS code).Width.toNat) then (zeroV, 0, 3)
    else finS ⟨(ofS code).Kind, 0, (s.drop (ofS code).Width.toNat).take (numB (s.take (ofS code).Width.toNat)), []⟩ ((ofS code).Width + numB (s.take (ofS code).Width.toNat))
  else if (ofS code).Width = 16 then finS ⟨(ofS code).Kind, 0, s.take 16, []⟩ 16
  else if (ofS code).Code = 65 then finS ⟨(ofS code).Kind, 1, [], []⟩ 0
  else finS ⟨(ofS code).Kind, widenS (ofS code) (numB (s.take (ofS code).Width.toNat)), [], []⟩ (ofS code).Width
end
end Go.Av
namespace Go.Av
noncomputable section
open Go.Proofs
set_option maxRecDepth 100000
/-- eight bytes, the lowest first -/
def wordN : List UInt8 → Nat
  | [] => 0
  | b :: r => b.toNat + 256 * wordN r
theorem wordN_lt : ∀ (s : List UInt8) (k : Nat), s.length ≤ k → wordN s < 256 ^ k
  | [], k, _ => Nat.pow_pos (by omega)
  | b :: r, 0, h => by simp at h
  | b :: r, k + 1, h => by
    have h1 := wordN_lt r k (by simpa using h)
    have h2 : b.toNat < 256 := b.toNat_lt
    rw [wordN, Nat.pow_succ]
    omega
theorem u64_or (a b : Nat) (n m : Nat) (ha : a < 2 ^ n) (hb : b < 2 ^ m) (hn : n + m ≤ 64) :
    IntKind.u64.wrap (((BitVec.ofInt IntKind.u64.bits (a : Int) ||| BitVec.ofInt IntKind.u64.bits (IntKind.u64.wrap ((b : Int) * 2 ^ min n IntKind.u64.bits))).toNat : Nat) : Int) = ((a + 2 ^ n * b : Nat) : Int) := by
  have h64 : IntKind.u64.bits = 64 := rfl
  have hw : ∀ z : Int, IntKind.u64.wrap z = z % 18446744073709551616 := fun z => by simp [IntKind.wrap, IntKind.bits, IntKind.signed]
  have hnn : min n 64 = n := by omega
  have hp : 2 ^ n * b < 2 ^ 64 := by
    calc 2 ^ n * b < 2 ^ n * 2 ^ m := Nat.mul_lt_mul_of_pos_left hb (Nat.two_pow_pos n)
      _ = 2 ^ (n + m) := (Nat.pow_add 2 n m).symm
      _ ≤ 2 ^ 64 := Nat.pow_le_pow_right (by omega) hn
  have ha64 : a < 2 ^ 64 := Nat.lt_of_lt_of_le ha (Nat.pow_le_pow_right (by omega) (by omega))
  have e1 : ((b : Int) * 2 ^ n) = ((2 ^ n * b : Nat) : Int) := by push_cast; exact Int.mul_comm _ _
  rw [h64, hnn, e1, hw, hw]
  have e2 : ((2 ^ n * b : Nat) : Int) % 18446744073709551616 = ((2 ^ n * b : Nat) : Int) := by
    rw [Int.emod_eq_of_lt (by omega) (by have : (2 : Nat) ^ 64 = 18446744073709551616 := rfl; omega)]
  rw [e2, BitVec.ofInt_natCast, BitVec.ofInt_natCast, BitVec.toNat_or, BitVec.toNat_ofNat, BitVec.toNat_ofNat, Nat.mod_eq_of_lt ha64, Nat.mod_eq_of_lt hp]
  have e3 : a ||| 2 ^ n * b = a + 2 ^ n * b := by
    have := Nat.shiftLeft_add_eq_or_of_lt ha b
    rw [Nat.shiftLeft_eq, Nat.mul_comm] at this
    rw [Nat.or_comm, ← this, Nat.add_comm]
  rw [e3]
  have e4 : a + 2 ^ n * b < 18446744073709551616 := by
    have hb2 : b + 1 ≤ 2 ^ m := hb
    have : 2 ^ n * (b + 1) ≤ 2 ^ n * 2 ^ m := Nat.mul_le_mul_left _ hb2
    rw [← Nat.pow_add] at this
    have h5 : 2 ^ (n + m) ≤ 2 ^ 64 := Nat.pow_le_pow_right (by omega) hn
    rw [Nat.mul_add, Nat.mul_one] at this
    have : (2 : Nat) ^ 64 = 18446744073709551616 := rfl
    omega
  rw [Int.emod_eq_of_lt (by omega) (by omega)]
theorem u64_byte (b : UInt8) : IntKind.u64.wrap ((b.toNat : Nat) : Int) = ((b.toNat : Nat) : Int) := by
  have := b.toNat_lt
  simp only [IntKind.wrap, IntKind.bits, IntKind.signed]
  simp
  omega
theorem word_eq (N : Nat) (b0 b1 b2 b3 b4 b5 b6 b7 : UInt8) (r : List UInt8) : F_unicode_utf8_word_string N (b0 :: b1 :: b2 :: b3 :: b4 :: b5 :: b6 :: b7 :: r) = some (wordN [b0, b1, b2, b3, b4, b5, b6, b7] : Nat) := by
  have l0 := b0.toNat_lt; have l1 := b1.toNat_lt; have l2 := b2.toNat_lt; have l3 := b3.toNat_lt
  have l4 := b4.toNat_lt; have l5 := b5.toNat_lt; have l6 := b6.toNat_lt; have l7 := b7.toNat_lt
  show some _ = some _
  simp only [orI, shlI, u64_byte]
  have t8 : Int.toNat 8 = 8 := rfl
  have t16 : Int.toNat 16 = 16 := rfl
  have t24 : Int.toNat 24 = 24 := rfl
  have t32 : Int.toNat 32 = 32 := rfl
  have t40 : Int.toNat 40 = 40 := rfl
  have t48 : Int.toNat 48 = 48 := rfl
  have t56 : Int.toNat 56 = 56 := rfl
  rw [t8, t16, t24, t32, t40, t48, t56]
  rw [u64_or b0.toNat b1.toNat 8 8 l0 l1 (by omega)]
  rw [u64_or _ b2.toNat 16 8 (by omega) l2 (by omega)]
  rw [u64_or _ b3.toNat 24 8 (by omega) l3 (by omega)]
  rw [u64_or _ b4.toNat 32 8 (by omega) l4 (by omega)]
  rw [u64_or _ b5.toNat 40 8 (by omega) l5 (by omega)]
  rw [u64_or _ b6.toNat 48 8 (by omega) l6 (by omega)]
  rw [u64_or _ b7.toNat 56 8 (by omega) l7 (by omega)]
  simp only [wordN, Option.some.injEq]
  omega
theorem word_take (N : Nat) (s : List UInt8) (h : 8 ≤ s.length) : F_unicode_utf8_word_string N s = some ((wordN (s.take 8) : Nat) : Int) := by
  match s, h with
  | b0 :: b1 :: b2 :: b3 :: b4 :: b5 :: b6 :: b7 :: r, _ => exact word_eq N b0 b1 b2 b3 b4 b5 b6 b7 r
/-- no byte has its highest bit -/
theorem mask_zero : ∀ (s : List UInt8) (m : Nat), m = wordN (List.replicate s.length 128) → (wordN s &&& m = 0 ↔ ∀ b ∈ s, b < 128)
  | [], m, h => by subst h; simp [wordN]
  | b :: r, m, h => by
    have ih := mask_zero r _ rfl
    have hb0 : ∀ n, n < 256 → (n &&& 128 = 0 ↔ n < 128) := by decide
    have hb : ∀ c : UInt8, c.toNat &&& 128 = 0 ↔ c < 128 := fun c => (hb0 c.toNat c.toNat_lt).trans Iff.rfl
    rw [List.length_cons, List.replicate_succ, wordN] at h
    generalize wordN (List.replicate r.length 128) = q at h ih
    have e1 : (128 : UInt8).toNat = 128 := rfl
    rw [e1] at h
    have key : ∀ z : Nat, z = 0 ↔ z % 2 ^ 8 = 0 ∧ z / 2 ^ 8 = 0 := fun z => by omega
    have hlt := b.toNat_lt
    rw [wordN, h, key, Nat.and_mod_two_pow, Nat.and_div_two_pow]
    have d1 : (b.toNat + 256 * wordN r) % 2 ^ 8 = b.toNat := by omega
    have d2 : (128 + 256 * q) % 2 ^ 8 = 128 := by omega
    have d3 : (b.toNat + 256 * wordN r) / 2 ^ 8 = wordN r := by omega
    have d4 : (128 + 256 * q) / 2 ^ 8 = q := by omega
    rw [d1, d2, d3, d4, hb, ih]
    simp
theorem u64_wrap (n : Nat) (h : n < 18446744073709551616) : IntKind.u64.wrap (n : Int) = n := by
  simp only [IntKind.wrap, IntKind.bits, IntKind.signed]
  simp; omega
theorem andI_nat (a b : Nat) (ha : a < 18446744073709551616) (hb : b < 18446744073709551616) : andI .u64 (a : Int) (b : Int) = ((a &&& b : Nat) : Int) := by
  have hl : a &&& b ≤ a := Nat.and_le_left
  have h64 : IntKind.u64.bits = 64 := rfl
  have p64 : (2 : Nat) ^ 64 = 18446744073709551616 := rfl
  simp only [andI]
  rw [h64, BitVec.ofInt_natCast, BitVec.ofInt_natCast, BitVec.toNat_and, BitVec.toNat_ofNat, BitVec.toNat_ofNat, Nat.mod_eq_of_lt (by omega), Nat.mod_eq_of_lt (by omega), u64_wrap _ (by omega)]
theorem orI_nat (a b : Nat) (ha : a < 18446744073709551616) (hb : b < 18446744073709551616) : orI .u64 (a : Int) (b : Int) = ((a ||| b : Nat) : Int) ∧ (a ||| b) < 18446744073709551616 := by
  have h64 : IntKind.u64.bits = 64 := rfl
  have p64 : (2 : Nat) ^ 64 = 18446744073709551616 := rfl
  have hl : a ||| b < 2 ^ 64 := Nat.or_lt_two_pow (by omega) (by omega)
  simp only [orI]
  rw [h64, BitVec.ofInt_natCast, BitVec.ofInt_natCast, BitVec.toNat_or, BitVec.toNat_ofNat, BitVec.toNat_ofNat, Nat.mod_eq_of_lt (by omega), Nat.mod_eq_of_lt (by omega), u64_wrap _ (by omega)]
  exact ⟨rfl, by omega⟩
theorem or_zero (a b m : Nat) : (a ||| b) &&& m = 0 ↔ a &&& m = 0 ∧ b &&& m = 0 := by
  rw [Nat.and_or_distrib_right]
  constructor
  · intro h
    have h1 : a &&& m ≤ (a &&& m) ||| (b &&& m) := Nat.left_le_or
    have h2 : b &&& m ≤ (a &&& m) ||| (b &&& m) := Nat.right_le_or
    omega
  · rintro ⟨h1, h2⟩; rw [h1, h2]; rfl
theorem word_lt (s : List UInt8) : wordN (s.take 8) < 18446744073709551616 := by
  have := wordN_lt (s.take 8) 8 (by simp; omega)
  simpa using this
def M8 : Nat := 9259542123273814144
theorem mask8 (s : List UInt8) (h : 8 ≤ s.length) : wordN (s.take 8) &&& M8 = 0 ↔ ∀ b ∈ s.take 8, b < 128 := mask_zero _ _ (by rw [List.length_take, Nat.min_eq_left h]; rfl)
/-- eight bytes that are ASCII may be left out -/
theorem asc8 (s : List UInt8) (h : 8 ≤ s.length) (hm : wordN (s.take 8) &&& M8 = 0) : validF s = validF (s.drop 8) := valid_ascii 8 s ((mask8 s h).1 hm)
theorem mask1 (s : List UInt8) : (andI .u64 ((wordN (s.take 8) : Nat) : Int) 9259542123273814144 = 0) = (wordN (s.take 8) &&& M8 = 0) := by
  have h1 := word_lt s
  rw [show (9259542123273814144 : Int) = ((M8 : Nat) : Int) from rfl, andI_nat _ _ h1 (by decide)]
  apply propext; omega
theorem mask2 (s t : List UInt8) : (andI .u64 (orI .u64 ((wordN (s.take 8) : Nat) : Int) ((wordN (t.take 8) : Nat) : Int)) 9259542123273814144 = 0) = (wordN (s.take 8) &&& M8 = 0 ∧ wordN (t.take 8) &&& M8 = 0) := by
  obtain ⟨h1, h2⟩ := orI_nat _ _ (word_lt s) (word_lt t)
  rw [h1, show (9259542123273814144 : Int) = ((M8 : Nat) : Int) from rfl, andI_nat _ _ h2 (by decide)]
  rw [← or_zero]
  apply propext; omega
theorem mask4 (s t u v : List UInt8) : (andI .u64 (orI .u64 (orI .u64 ((wordN (s.take 8) : Nat) : Int) ((wordN (t.take 8) : Nat) : Int)) (orI .u64 ((wordN (u.take 8) : Nat) : Int) ((wordN (v.take 8) : Nat) : Int))) 9259542123273814144 = 0) =
    (wordN (s.take 8) &&& M8 = 0 ∧ wordN (t.take 8) &&& M8 = 0 ∧ wordN (u.take 8) &&& M8 = 0 ∧ wordN (v.take 8) &&& M8 = 0) := by
  obtain ⟨h1, h2⟩ := orI_nat _ _ (word_lt s) (word_lt t)
  obtain ⟨h3, h4⟩ := orI_nat _ _ (word_lt u) (word_lt v)
  obtain ⟨h5, h6⟩ := orI_nat _ _ h2 h4
  rw [h1, h3, h5, show (9259542123273814144 : Int) = ((M8 : Nat) : Int) from rfl, andI_nat _ _ h6 (by decide)]
  rw [show (wordN (s.take 8) &&& M8 = 0 ∧ wordN (t.take 8) &&& M8 = 0 ∧ wordN (u.take 8) &&& M8 = 0 ∧ wordN (v.take 8) &&& M8 = 0) = ((wordN (s.take 8) ||| wordN (t.take 8) ||| (wordN (u.take 8) ||| wordN (v.take 8))) &&& M8 = 0) by
    rw [or_zero, or_zero, or_zero]; apply propext; simp only [and_assoc]]
  apply propext; omega
theorem VS_L1 (N : Nat) (k0 : List UInt8 → Option Bool) : ∀ (n : Nat) (s : List UInt8), s.length < n → (∀ t, t.length ≤ s.length → k0 t = some (validF t)) → F_unicode_utf8_ValidString_L1 N k0 n s = some (validF s)
  | 0, s, h, _ => by omega
  | n + 1, s, h, hk => by
    simp only [F_unicode_utf8_ValidString_L1, cond_eq, gtr_t, eql_t, List.take_length, Nat.ble_eq, Bool.and_eq_true, Nat.le_refl, and_true]
    by_cases hl : (s.length : Int) > 32
    · rw [if_pos hl, word_take N s (by omega)]
      simp only [Option.bind_some]
      rw [if_pos (by omega), word_take N _ (by rw [List.length_drop]; omega)]
      simp only [Option.bind_some]
      rw [if_pos (by omega), word_take N _ (by rw [List.length_drop]; omega)]
      simp only [Option.bind_some]
      rw [if_pos (by omega), word_take N _ (by rw [List.length_drop]; omega)]
      simp only [Option.bind_some, mask4]
      split
      · rename_i hm
        obtain ⟨m1, m2, m3, m4⟩ := hm
        rw [if_pos (by omega), VS_L1 N k0 n (s.drop 32) (by rw [List.length_drop]; omega) (fun t ht => hk t (by rw [List.length_drop] at ht; omega))]
        have e1 := asc8 s (by omega) m1
        have e2 := asc8 (s.drop 8) (by rw [List.length_drop]; omega) m2
        rw [List.drop_drop] at e2
        have e3 := asc8 (s.drop 16) (by rw [List.length_drop]; omega) m3
        rw [List.drop_drop] at e3
        have e4 := asc8 (s.drop 24) (by rw [List.length_drop]; omega) m4
        rw [List.drop_drop] at e4
        rw [e1, e2, e3, e4]
      · exact hk s (Nat.le_refl _)
    · rw [if_neg hl]; exact hk s (Nat.le_refl _)
/-- Go's table of first bytes -/
def fstN (n : Nat) : Nat := Go.Pinned.utf8FirstZ.getD n 0
theorem fst_idx (n : Nat) (h : n < 256) : idx gtab0 (n : Int) = some (fstN n : Int) := by
  have hl : Go.Pinned.utf8FirstZ.length = 256 := by rfl
  rw [idx_nat, gtab0, List.getElem?_map, fstN, List.getD_eq_getElem?_getD, List.getElem?_eq_getElem (by omega)]
  rfl
def clsB (n : Nat) : Bool := (fstN n == 241 && (decide (n < 194) || decide (244 < n))) || (fstN n == 2 && decide (194 ≤ n) && decide (n ≤ 223)) || (fstN n == 19 && n == 224) || (fstN n == 3 && decide (225 ≤ n) && decide (n ≤ 239) && n != 237) || (fstN n == 35 && n == 237) ||
    (fstN n == 52 && n == 240) || (fstN n == 4 && decide (241 ≤ n) && decide (n ≤ 243)) || (fstN n == 68 && n == 244)
set_option maxRecDepth 100000 in
theorem cls_all : ((List.range 256).all fun n => decide (n < 128) || clsB n) = true := by decide +kernel
theorem cls (n : Nat) (h : n < 256) (h2 : 128 ≤ n) : (fstN n = 241 ∧ (n < 194 ∨ 244 < n)) ∨ (fstN n = 2 ∧ 194 ≤ n ∧ n ≤ 223) ∨ (fstN n = 19 ∧ n = 224) ∨ (fstN n = 3 ∧ 225 ≤ n ∧ n ≤ 239 ∧ n ≠ 237) ∨ (fstN n = 35 ∧ n = 237) ∨
    (fstN n = 52 ∧ n = 240) ∨ (fstN n = 4 ∧ 241 ≤ n ∧ n ≤ 243) ∨ (fstN n = 68 ∧ n = 244) := by
  have := List.all_eq_true.1 cls_all n (by simpa using h)
  simp only [Bool.or_eq_true, decide_eq_true_eq] at this
  rcases this with h3 | h3
  · omega
  · simp only [clsB, Bool.or_eq_true, Bool.and_eq_true, beq_iff_eq, decide_eq_true_eq, bne_iff_ne, ne_eq] at h3
    rcases h3 with ((((((h | h) | h) | h) | h) | h) | h) | h
    · exact .inl h
    · exact .inr (.inl ⟨h.1.1, h.1.2, h.2⟩)
    · exact .inr (.inr (.inl h))
    · exact .inr (.inr (.inr (.inl ⟨h.1.1.1, h.1.1.2, h.1.2, h.2⟩)))
    · exact .inr (.inr (.inr (.inr (.inl h))))
    · exact .inr (.inr (.inr (.inr (.inr (.inl h)))))
    · exact .inr (.inr (.inr (.inr (.inr (.inr (.inl ⟨h.1.1, h.1.2, h.2⟩))))))
    · exact .inr (.inr (.inr (.inr (.inr (.inr (.inr h))))))
theorem VS_asc (N n : Nat) (c : UInt8) (r : List UInt8) (hc : c.toNat < 128) (_hn : r.length < n) (hN : r.length < N) (ih : ∀ t, t.length ≤ r.length → F_unicode_utf8_ValidString_L0 N n t = some (validF t)) :
    F_unicode_utf8_ValidString_L0 N (n + 1) (c :: r) = some (validF (c :: r)) := by
  have hstep : validF (c :: r) = validF r := valid_ascii 1 (c :: r) (fun b hb => by simp at hb; subst hb; exact hc)
  rw [hstep]
  simp only [F_unicode_utf8_ValidString_L0, cond_eq, gtr_t, eql_t, lss_t, List.take_length, Nat.ble_eq, Bool.and_eq_true, Nat.le_refl, and_true]
  rw [if_pos (by simp only [List.length_cons]; omega), show idx (c :: r) 0 = some c from rfl]
  simp only [Option.bind_some]
  rw [if_pos (by omega), if_pos (by simp)]
  simp only [List.drop_one, List.tail_cons]
  by_cases h8 : (r.length : Int) > 8
  · rw [if_pos h8, word_take N r (by omega)]
    simp only [Option.bind_some, mask1]
    split
    · rename_i hm
      rw [asc8 r (by omega) hm, if_pos (by omega)]
      split
      · rename_i h16
        rw [word_take N _ (by omega)]
        simp only [Option.bind_some]
        rw [if_pos (by omega), word_take N _ (by simp only [List.length_drop] at h16 ⊢; omega)]
        simp only [Option.bind_some, mask2]
        split
        · rename_i hm2
          rw [if_pos (by omega), VS_L1 N _ N _ (by simp only [List.length_drop]; omega) (fun t ht => ih t (by simp only [List.length_drop] at ht; omega))]
          rw [asc8 (r.drop 8) (by simp only [List.length_drop] at h16 ⊢; omega) hm2.1, asc8 ((r.drop 8).drop 8) (by simp only [List.length_drop] at h16 ⊢; omega) hm2.2, List.drop_drop (l := r.drop 8)]
        · exact ih _ (by simp only [List.length_drop]; omega)
      · exact ih _ (by simp only [List.length_drop]; omega)
    · exact ih _ (Nat.le_refl _)
  · rw [if_neg h8]; exact ih _ (Nat.le_refl _)
end
end Go.Av
namespace Go.Av
noncomputable section
open Go.Proofs
set_option maxRecDepth 100000
theorem inB_t {s : List UInt8} {i lo hi : Nat} {b : UInt8} (h : s[i]? = some b) (h1 : lo ≤ b.toNat) (h2 : b.toNat ≤ hi) : inB s i lo hi = true := by simp [inB, h, h1, h2]
theorem inB_f {s : List UInt8} {i lo hi : Nat} {b : UInt8} (h : s[i]? = some b) (h1 : ¬ (lo ≤ b.toNat ∧ b.toNat ≤ hi)) : inB s i lo hi = false := by simp only [inB, h, decide_eq_false h1]
theorem inB_n {s : List UInt8} {i lo hi : Nat} (h : s[i]? = none) : inB s i lo hi = false := by simp [inB, h]
/-- the test of two to four bytes -/
theorem VS_cls2 {X : List UInt8 → Option Bool} (c : UInt8) (r : List UInt8) (lo hi : Int) (lo' hi' : Nat) (e1 : lo = lo') (e2 : hi = hi') (hX : ∀ t, t.length ≤ r.length → X t = some (validF t))
    (hcp : cpN (c :: r) = if inB (c :: r) 1 lo' hi' then 2 else 0) :
    (if ((c :: r).length : Int) < 2 then some false else (idx (c :: r) 1).bind fun b => if (b.toNat : Int) < lo then some false else (idx (c :: r) 1).bind fun b2 => if hi < (b2.toNat : Int) then some false else
      if 2 ≤ (c :: r).length then X ((c :: r).drop 2) else none) = some (validF (c :: r)) := by
  subst e1 e2
  have bad : cpN (c :: r) = 0 → some false = some (validF (c :: r)) := fun h => by rw [valid_bad _ (by simp) h]
  match r, hX, hcp, bad with
  | [], hX, hcp, bad =>
    rw [if_pos (by simp)]
    exact bad (by rw [hcp, inB_n (by simp)]; rfl)
  | d :: t, hX, hcp, bad =>
    rw [if_neg (by simp only [List.length_cons]; omega), show idx (c :: d :: t) 1 = some d from rfl]
    simp only [Option.bind_some]
    by_cases h1 : (d.toNat : Int) < lo'
    · rw [if_pos h1]; exact bad (by rw [hcp, inB_f (b := d) rfl (by omega)]; rfl)
    rw [if_neg h1]
    by_cases h2 : (hi' : Int) < d.toNat
    · rw [if_pos h2]; exact bad (by rw [hcp, inB_f (b := d) rfl (by omega)]; rfl)
    rw [if_neg h2, if_pos (by simp)]
    have hc : cpN (c :: d :: t) = 2 := by rw [hcp, inB_t (b := d) rfl (by omega) (by omega)]; rfl
    rw [valid_step _ 1 hc]
    exact hX _ (by simp)
theorem VS_cls3 {X : List UInt8 → Option Bool} (c : UInt8) (r : List UInt8) (lo hi : Int) (lo' hi' : Nat) (e1 : lo = lo') (e2 : hi = hi') (hX : ∀ t, t.length ≤ r.length → X t = some (validF t))
    (hcp : cpN (c :: r) = if inB (c :: r) 1 lo' hi' && inB (c :: r) 2 128 191 then 3 else 0) :
    (if ((c :: r).length : Int) < 3 then some false else (idx (c :: r) 1).bind fun b => if (b.toNat : Int) < lo then some false else (idx (c :: r) 1).bind fun b2 => if hi < (b2.toNat : Int) then some false else
      (idx (c :: r) 2).bind fun b3 => if (b3.toNat : Int) < 128 then some false else (idx (c :: r) 2).bind fun b4 => if 191 < (b4.toNat : Int) then some false else
      if 3 ≤ (c :: r).length then X ((c :: r).drop 3) else none) = some (validF (c :: r)) := by
  subst e1 e2
  have bad : cpN (c :: r) = 0 → some false = some (validF (c :: r)) := fun h => by rw [valid_bad _ (by simp) h]
  match r, hX, hcp, bad with
  | [], hX, hcp, bad =>
    rw [if_pos (by simp)]
    exact bad (by rw [hcp, inB_n (by simp)]; rfl)
  | [d], hX, hcp, bad =>
    rw [if_pos (by simp)]
    exact bad (by rw [hcp, inB_n (i := 2) (by simp)]; simp)
  | d :: e :: t, hX, hcp, bad =>
    rw [if_neg (by simp only [List.length_cons]; omega), show idx (c :: d :: e :: t) 1 = some d from rfl, show idx (c :: d :: e :: t) 2 = some e from rfl]
    simp only [Option.bind_some]
    by_cases h1 : (d.toNat : Int) < lo'
    · rw [if_pos h1]; exact bad (by rw [hcp, inB_f (b := d) (i := 1) rfl (by omega)]; rfl)
    rw [if_neg h1]
    by_cases h2 : (hi' : Int) < d.toNat
    · rw [if_pos h2]; exact bad (by rw [hcp, inB_f (b := d) (i := 1) rfl (by omega)]; rfl)
    rw [if_neg h2]
    by_cases h3 : (e.toNat : Int) < 128
    · rw [if_pos h3]; exact bad (by rw [hcp, inB_f (b := e) (i := 2) rfl (by omega)]; simp)
    rw [if_neg h3]
    by_cases h4 : (191 : Int) < e.toNat
    · rw [if_pos h4]; exact bad (by rw [hcp, inB_f (b := e) (i := 2) rfl (by omega)]; simp)
    rw [if_neg h4, if_pos (by simp)]
    have hc : cpN (c :: d :: e :: t) = 3 := by rw [hcp, inB_t (b := d) (i := 1) rfl (by omega) (by omega), inB_t (b := e) (i := 2) rfl (by omega) (by omega)]; rfl
    rw [valid_step _ 2 hc]
    exact hX _ (by simp; omega)
theorem VS_cls4 {X : List UInt8 → Option Bool} (c : UInt8) (r : List UInt8) (lo hi : Int) (lo' hi' : Nat) (e1 : lo = lo') (e2 : hi = hi') (hX : ∀ t, t.length ≤ r.length → X t = some (validF t))
    (hcp : cpN (c :: r) = if inB (c :: r) 1 lo' hi' && inB (c :: r) 2 128 191 && inB (c :: r) 3 128 191 then 4 else 0) :
    (if ((c :: r).length : Int) < 4 then some false else (idx (c :: r) 1).bind fun b => if (b.toNat : Int) < lo then some false else (idx (c :: r) 1).bind fun b2 => if hi < (b2.toNat : Int) then some false else
      (idx (c :: r) 2).bind fun b3 => if (b3.toNat : Int) < 128 then some false else (idx (c :: r) 2).bind fun b4 => if 191 < (b4.toNat : Int) then some false else
      (idx (c :: r) 3).bind fun b5 => if (b5.toNat : Int) < 128 then some false else (idx (c :: r) 3).bind fun b6 => if 191 < (b6.toNat : Int) then some false else
      if 4 ≤ (c :: r).length then X ((c :: r).drop 4) else none) = some (validF (c :: r)) := by
  subst e1 e2
  have bad : cpN (c :: r) = 0 → some false = some (validF (c :: r)) := fun h => by rw [valid_bad _ (by simp) h]
  match r, hX, hcp, bad with
  | [], hX, hcp, bad =>
    rw [if_pos (by simp)]
    exact bad (by rw [hcp, inB_n (by simp)]; rfl)
  | [d], hX, hcp, bad =>
    rw [if_pos (by simp)]
    exact bad (by rw [hcp, inB_n (i := 2) (by simp)]; simp)
  | [d, e], hX, hcp, bad =>
    rw [if_pos (by simp)]
    exact bad (by rw [hcp, inB_n (i := 3) (by simp)]; simp)
  | d :: e :: f :: t, hX, hcp, bad =>
    rw [if_neg (by simp only [List.length_cons]; omega), show idx (c :: d :: e :: f :: t) 1 = some d from rfl, show idx (c :: d :: e :: f :: t) 2 = some e from rfl, show idx (c :: d :: e :: f :: t) 3 = some f from rfl]
    simp only [Option.bind_some]
    by_cases h1 : (d.toNat : Int) < lo'
    · rw [if_pos h1]; exact bad (by rw [hcp, inB_f (b := d) (i := 1) rfl (by omega)]; rfl)
    rw [if_neg h1]
    by_cases h2 : (hi' : Int) < d.toNat
    · rw [if_pos h2]; exact bad (by rw [hcp, inB_f (b := d) (i := 1) rfl (by omega)]; rfl)
    rw [if_neg h2]
    by_cases h3 : (e.toNat : Int) < 128
    · rw [if_pos h3]; exact bad (by rw [hcp, inB_f (b := e) (i := 2) rfl (by omega)]; simp)
    rw [if_neg h3]
    by_cases h4 : (191 : Int) < e.toNat
    · rw [if_pos h4]; exact bad (by rw [hcp, inB_f (b := e) (i := 2) rfl (by omega)]; simp)
    rw [if_neg h4]
    by_cases h5 : (f.toNat : Int) < 128
    · rw [if_pos h5]; exact bad (by rw [hcp, inB_f (b := f) (i := 3) rfl (by omega)]; simp)
    rw [if_neg h5]
    by_cases h6 : (191 : Int) < f.toNat
    · rw [if_pos h6]; exact bad (by rw [hcp, inB_f (b := f) (i := 3) rfl (by omega)]; simp)
    rw [if_neg h6, if_pos (by simp)]
    have hc : cpN (c :: d :: e :: f :: t) = 4 := by rw [hcp, inB_t (b := d) (i := 1) rfl (by omega) (by omega), inB_t (b := e) (i := 2) rfl (by omega) (by omega), inB_t (b := f) (i := 3) rfl (by omega) (by omega)]; rfl
    rw [valid_step _ 3 hc]
    exact hX _ (by simp; omega)
theorem VS_L0 : ∀ (N n : Nat) (s : List UInt8), s.length < n → s.length < N → F_unicode_utf8_ValidString_L0 N n s = some (validF s)
  | N, 0, s, h, _ => by omega
  | N, n + 1, [], h1, h2 => by simp [F_unicode_utf8_ValidString_L0, cond_eq, valid_nil]
  | N, n + 1, c :: r, h1, h2 => by
    have h1 : r.length < n := by simp at h1; omega
    have h2 : r.length < N := by simp at h2; omega
    have ih : ∀ t : List UInt8, t.length ≤ r.length → F_unicode_utf8_ValidString_L0 N n t = some (validF t) := fun t ht => VS_L0 N n t (by omega) (by omega)
    by_cases hc : c.toNat < 128
    · exact VS_asc N n c r hc h1 h2 ih
    have hlt := c.toNat_lt
    simp only [F_unicode_utf8_ValidString_L0, cond_eq, gtr_t, eql_t, lss_t, List.take_length, Nat.ble_eq, Bool.and_eq_true, Nat.le_refl, and_true]
    rw [if_pos (by simp only [List.length_cons]; omega), show idx (c :: r) 0 = some c from rfl]
    simp only [Option.bind_some]
    rw [if_neg (by omega), fst_idx _ hlt]
    simp only [Option.bind_some]
    rcases cls c.toNat hlt (by omega) with ⟨e, h⟩ | ⟨e, h⟩ | ⟨e, h⟩ | ⟨e, h⟩ | ⟨e, h⟩ | ⟨e, h⟩ | ⟨e, h⟩ | ⟨e, h⟩
    · rw [e, show (idx gtab1 (shrI .u8 ((241 : Nat) : Int) 4)) = some (0, 0) from by decide]
      simp only [Option.bind_some]
      rw [if_neg (by decide), if_neg (by decide), if_neg (by decide), valid_bad _ (by simp) (by simp only [cpN]; rw [if_neg hc, if_neg (by omega), if_neg (by omega), if_neg (by omega), if_neg (by omega), if_neg (by omega), if_neg (by omega), if_neg (by omega)])]
    · rw [e, show (idx gtab1 (shrI .u8 ((2 : Nat) : Int) 4)) = some (128, 191) from by decide]
      simp only [Option.bind_some]
      rw [if_pos (by decide)]
      exact VS_cls2 c r 128 191 128 191 rfl rfl ih (by simp only [cpN]; rw [if_neg hc, if_pos h])
    · rw [e, show (idx gtab1 (shrI .u8 ((19 : Nat) : Int) 4)) = some (160, 191) from by decide]
      simp only [Option.bind_some]
      rw [if_neg (by decide), if_pos (by decide)]
      exact VS_cls3 c r 160 191 160 191 rfl rfl ih (by simp only [cpN]; rw [if_neg hc, if_neg (by omega), if_pos h])
    · rw [e, show (idx gtab1 (shrI .u8 ((3 : Nat) : Int) 4)) = some (128, 191) from by decide]
      simp only [Option.bind_some]
      rw [if_neg (by decide), if_pos (by decide)]
      exact VS_cls3 c r 128 191 128 191 rfl rfl ih (by simp only [cpN]; rw [if_neg hc, if_neg (by omega), if_neg (by omega), if_neg (by omega), if_pos (by omega)])
    · rw [e, show (idx gtab1 (shrI .u8 ((35 : Nat) : Int) 4)) = some (128, 159) from by decide]
      simp only [Option.bind_some]
      rw [if_neg (by decide), if_pos (by decide)]
      exact VS_cls3 c r 128 159 128 159 rfl rfl ih (by simp only [cpN]; rw [if_neg hc, if_neg (by omega), if_neg (by omega), if_pos h])
    · rw [e, show (idx gtab1 (shrI .u8 ((52 : Nat) : Int) 4)) = some (144, 191) from by decide]
      simp only [Option.bind_some]
      rw [if_neg (by decide), if_neg (by decide), if_pos (by decide)]
      exact VS_cls4 c r 144 191 144 191 rfl rfl ih (by simp only [cpN]; rw [if_neg hc, if_neg (by omega), if_neg (by omega), if_neg (by omega), if_neg (by omega), if_pos h])
    · rw [e, show (idx gtab1 (shrI .u8 ((4 : Nat) : Int) 4)) = some (128, 191) from by decide]
      simp only [Option.bind_some]
      rw [if_neg (by decide), if_neg (by decide), if_pos (by decide)]
      exact VS_cls4 c r 128 191 128 191 rfl rfl ih (by simp only [cpN]; rw [if_neg hc, if_neg (by omega), if_neg (by omega), if_neg (by omega), if_neg (by omega), if_neg (by omega), if_pos h])
    · rw [e, show (idx gtab1 (shrI .u8 ((68 : Nat) : Int) 4)) = some (128, 143) from by decide]
      simp only [Option.bind_some]
      rw [if_neg (by decide), if_neg (by decide), if_pos (by decide)]
      exact VS_cls4 c r 128 143 128 143 rfl rfl ih (by simp only [cpN]; rw [if_neg hc, if_neg (by omega), if_neg (by omega), if_neg (by omega), if_neg (by omega), if_neg (by omega), if_neg (by omega), if_pos h])
theorem ValidString_eq (N : Nat) (s : List UInt8) (h : s.length < N) : F_unicode_utf8_ValidString N s = some (validF s) := VS_L0 N N s h h
end
end Go.Av
namespace Go.Av
noncomputable section
open Go.Proofs
set_option maxRecDepth 100000
theorem asciiF_drop (s : List UInt8) (i : Nat) (hi : i < s.length) (h : s[i].toNat < 128) : asciiF (s.drop i) = asciiF (s.drop (i + 1)) := by
  rw [List.drop_eq_getElem_cons hi]
  simp only [asciiF, List.all_cons, decide_eq_true h, Bool.true_and]
theorem text_L0 (N : Nat) (v : SValue) (hb : v.Text.length < 4611686018427387904) : ∀ (n i : Nat), v.Text.length - i < n → i ≤ v.Text.length →
    F_amqprim_text_L0 N v n (i : Int) = some (if asciiF (v.Text.drop i) then 0 else 6)
  | 0, i, h, _ => by omega
  | n + 1, i, h, hi => by
    simp only [F_amqprim_text_L0, cond_eq, lss_t, geq_t]
    by_cases h1 : i < v.Text.length
    · rw [if_pos (by omega), idx_nat, List.getElem?_eq_getElem h1]
      simp only [Option.bind_some]
      by_cases h2 : v.Text[i].toNat < 128
      · rw [if_neg (by omega), wrap64 _ (by omega), asciiF_drop _ _ h1 h2]
        exact_mod_cast text_L0 N v hb n (i + 1) (by omega) (by omega)
      · rw [if_pos (by omega)]
        have : asciiF (v.Text.drop i) = false := by
          rw [List.drop_eq_getElem_cons h1]
          simp only [asciiF, List.all_cons, decide_eq_false h2, Bool.false_and]
        simp [this]
    · rw [if_neg (by omega), List.drop_of_length_le (by omega)]
      rfl
theorem text_eq (N : Nat) (v : SValue) (h : v.Text.length < N) (hb : v.Text.length < 4611686018427387904) : F_amqprim_text N v = some (textE v.Kind v.Text) := by
  simp only [F_amqprim_text, cond_eq, eql_t, textE]
  split
  · rw [ValidString_eq N _ h]
    simp only [Option.bind_some]
    cases validF v.Text <;> rfl
  · split
    · have := text_L0 N v hb N 0 (by omega) (by omega)
      simpa using this
    · rfl
theorem rows_ne (v : SValue) : (((SValue.rows v.Items).length : Int) ≠ 0) = (v.Items ≠ []) := by
  rw [rowsV_len]
  apply propext
  cases v.Items <;> simp; omega
theorem bitsS_rng (k : Int) : 0 ≤ (bitsS k).1 ∧ (bitsS k).1 ≤ 64 ∧ ((bitsS k).2 = true → 1 ≤ (bitsS k).1) := by
  unfold bitsS
  repeat' split
  all_goals simp
/-- a number that 64 bits are -/
def okU (n : Int) : Prop := 0 ≤ n ∧ n < 18446744073709551616
theorem Check_eq (N : Nat) (v : SValue) (hn : okU v.N') (h : v.Text.length < N) (hb : v.Text.length < 4611686018427387904) : F_amqprim_Check N v = some (checkS v) := by
  obtain ⟨b1, b2, b3⟩ := bitsS_rng v.Kind
  simp only [F_amqprim_Check, cond_eq, eql_t, lss_t, gtr_t, neq_t, cmpS_neq, bits_eq, Option.bind_some, fitsBits_eq N _ _ _ hn.1 hn.2 b1 b2 b3, codePoint_eq N _ hn.1, textual_eq, text_eq N v h hb, rows_ne]
  unfold checkS
  by_cases h1 : v.Kind < 1
  · rw [if_pos h1, if_pos (.inl h1)]
  rw [if_neg h1]
  by_cases h2 : v.Kind > 21
  · rw [if_pos h2, if_pos (.inr h2)]
  rw [if_neg h2, if_neg (show ¬ (v.Kind < 1 ∨ 21 < v.Kind) by omega)]
  unfold okNum
  generalize fitsS v.N' (bitsS v.Kind).1 (bitsS v.Kind).2 = fb
  cases fb
  · simp
  simp only [Bool.not_true, Bool.false_eq_true, if_false, Bool.true_and]
  by_cases h16 : v.Kind = 16
  · rw [if_pos h16]
    have e1 : (v.Kind != 16) = false := by simp [h16]
    have e2 : textS v.Kind = false := by rw [h16]; rfl
    rw [e1, e2]
    simp only [Bool.false_or, Bool.not_false, if_true]
    cases charS v.N' with
    | false => simp
    | true =>
      simp only [Bool.not_true, Bool.false_eq_true, if_false]
      by_cases hi : v.Items = []
      · simp only [hi, ne_eq, not_true_eq_false, if_false]
        simp only [Bool.true_eq_false, or_self, if_false]
        by_cases ht : v.Text = [] <;> simp [ht]
      · simp [hi]
  · rw [if_neg h16]
    have e1 : (v.Kind != 16) = true := by simp [h16]
    rw [e1]
    simp only [Bool.true_or, Bool.true_eq_false, false_or]
    have e3 : ((v.Text.length : Int) ≠ 16) = (v.Text.length ≠ 16) := by apply propext; omega
    have e4 : ((v.Text.length : Int) > 1048576) = (1048576 < v.Text.length) := by apply propext; omega
    simp only [e3, e4]
    by_cases hi : v.Items = []
    · simp only [hi, ne_eq, not_true_eq_false, if_false]
      cases textS v.Kind with
      | false => by_cases ht : v.Text = [] <;> simp [ht]
      | true =>
        simp only [Bool.not_true, Bool.false_eq_true, if_false, Bool.true_eq_false]
        by_cases h15 : v.Kind = 15
        · simp only [h15, if_true, true_or, true_and]
          by_cases hl : v.Text.length = 16 <;> simp [hl]
        · by_cases h18 : v.Kind = 18
          · simp only [h18, if_true, or_true, true_and]
            by_cases hl : v.Text.length = 16 <;> simp [hl]
          · simp only [h15, h18, if_false, or_self, false_and]
            split <;> rfl
    · simp [hi]
theorem says_eq (N : Nat) (c : SCtor) (v : SValue) (hn : okU v.N') : F_amqprim_says N c v = some (saysS c v) := by
  simp only [F_amqprim_says, cond_eq, eql_t, saysS, bits_eq, Option.bind_some]
  split
  · rfl
  split
  · split
    · rename_i h; simp [h]
    · rename_i h
      simp only [h, false_or, Option.some.injEq, cmpI, decide_eq_decide]
      omega
  split
  · rfl
  split
  · rw [fitsBits_eq N _ _ _ hn.1 hn.2 (by omega) (by omega) (by intro _; omega)]; rfl
  · rfl
theorem Fits_eq (N : Nat) (code : Int) (v : SValue) (hn : okU v.N') (h : v.Text.length < N) (hb : v.Text.length < 4611686018427387904) : F_amqprim_Fits N code v = some (fitsC code v) := by
  simp only [F_amqprim_Fits, F_amqprim_Of, cond_eq, eql_t, Option.bind_some, Check_eq N v hn h hb, says_eq N _ v hn, fitsC]
  cases ofB code
  · simp
  simp only [if_true, Bool.true_and]
  by_cases h1 : (ofS code).Kind = v.Kind
  · rw [if_pos h1, decide_eq_true h1]
    by_cases h2 : checkS v = 0
    · rw [if_pos h2, decide_eq_true h2]; simp
    · rw [if_neg h2, decide_eq_false h2]; simp
  · rw [if_neg h1, decide_eq_false h1]; simp
theorem Least_L0 (N : Nat) (v : SValue) (l : List Int) (hn : okU v.N') (h : v.Text.length < N) (hb : v.Text.length < 4611686018427387904) (hl : l.length < 1000) : ∀ (n i : Nat), l.length - i < n → i ≤ l.length →
    F_amqprim_Least_L0 N v l n (i : Int) = some (orL ((l.drop i).find? (fun c => fitsC c v)))
  | 0, i, h, _ => by omega
  | n + 1, i, h1, h2 => by
    simp only [F_amqprim_Least_L0, cond_eq, lss_t, rowsC_length]
    by_cases hi : i < l.length
    · rw [if_pos (by omega), idx_nat, List.getElem?_eq_getElem hi]
      simp only [Option.bind_some]
      rw [Fits_eq N _ v hn h hb]
      simp only [Option.bind_some]
      rw [List.drop_eq_getElem_cons hi, List.find?_cons]
      cases fitsC l[i] v with
      | true => rfl
      | false =>
        simp only [Bool.false_eq_true, if_false]
        rw [wrap64 _ (by omega)]
        exact_mod_cast Least_L0 N v l hn h hb hl n (i + 1) (by omega) (by omega)
    · rw [if_neg (by omega), List.drop_of_length_le (by omega)]
      rfl
theorem codesF_len (k : Int) : (codesF k).length ≤ 4 := by
  by_cases h : k < 1 ∨ 25 < k
  · rw [codesF_out k h]; simp
  · have hall : ((List.range 26).all fun k => decide ((codesF k).length ≤ 4)) = true := by decide +kernel
    have := List.all_eq_true.1 hall k.toNat (by simp; omega)
    rw [show ((k.toNat : Nat) : Int) = k by omega] at this
    simpa using this
theorem Least_eq (N : Nat) (v : SValue) (hn : okU v.N') (h : v.Text.length < N) (hN : 10 < N) (hb : v.Text.length < 4611686018427387904) : F_amqprim_Least N v = some (leastS v) := by
  simp only [F_amqprim_Least, cond_eq, neq_t, Option.bind_some, Check_eq N v hn h hb, F_amqprim_Codes, leastS]
  have hl := codesF_len v.Kind
  split
  · rfl
  · have := Least_L0 N v (codesF v.Kind) hn h hb (by omega) N 0 (by omega) (by omega)
    simpa using this
end
end Go.Av
namespace Go.Av
noncomputable section
open Go.Proofs
set_option maxRecDepth 100000
/-! bytes of a number -/
theorem bigB_front : ∀ (w n : Nat), bigB n (w + 1) = UInt8.ofNat (n / 256 ^ w % 256) :: bigB n w
  | 0, n => by simp [bigB]
  | w + 1, n => by
    rw [bigB, bigB_front w (n / 256), bigB, List.cons_append, Nat.div_div_eq_div_mul, Nat.pow_succ, Nat.mul_comm 256]
def bigL (n : Nat) : Nat → List Int
  | 0 => []
  | w + 1 => ((n / 256 ^ w % 256 : Nat) : Int) :: bigL n w
theorem bigL_map (n : Nat) : ∀ w, (bigL n w).map (fun n => UInt8.ofNat n.toNat) = bigB n w
  | 0 => rfl
  | w + 1 => by rw [bigL, List.map_cons, bigL_map n w, bigB_front]; rfl
theorem set_rep (m : Nat) (x : Int) (t : List Int) : (List.replicate (m + 1) (0 : Int) ++ t).set m x = List.replicate m 0 ++ (x :: t) := by
  rw [List.replicate_succ', List.append_assoc, List.set_append_right _ _ (by simp)]
  simp
theorem wrap8 (x : Int) : IntKind.u8.wrap x = x % 256 := by simp [IntKind.wrap, IntKind.bits, IntKind.signed]
theorem wrapU (x : Int) : IntKind.u64.wrap x = x % 18446744073709551616 := by simp [IntKind.wrap, IntKind.bits, IntKind.signed]
theorem Put_L0 (N n w : Nat) (hn : n < 18446744073709551616) (hw : w ≤ 8) : ∀ (k i : Nat), i ≤ w → w - i < k → F_octet_Put_L0 N (n : Int) (w : Int) k (i : Int) (List.replicate (w - i) 0 ++ bigL n i) = some (bigB n w)
  | 0, i, h, h2 => by omega
  | k + 1, i, h, h2 => by
    have e1 : ifB (decide ((16 : Int) < (w : Int))) (16 : Int) (w : Int) = w := by rw [decide_eq_false (by omega)]; rfl
    simp only [F_octet_Put_L0, cond_eq, lss_t, e1]
    by_cases hi : i < w
    · rw [if_pos (by omega), if_pos (by omega)]
      have e2 : IntKind.i64.wrap (8 * (i : Int)) = ((8 * i : Nat) : Int) := by rw [wrap64 _ (by omega)]; push_cast; rfl
      have e3 : IntKind.u64.wrap ((8 * i : Nat) : Int) = ((8 * i : Nat) : Int) := u64_wrap _ (by omega)
      have e4 : IntKind.i64.wrap (IntKind.i64.wrap ((w : Int) - 1) - (i : Int)) = ((w - i - 1 : Nat) : Int) := by
        rw [wrap64 ((w : Int) - 1) (by omega), wrap64 _ (by omega)]; omega
      rw [e2, e3, e4, if_pos (decide_eq_true (Int.natCast_nonneg _))]
      have hlen : (List.replicate (w - i) (0 : Int) ++ bigL n i).length ≥ w - i := by simp
      rw [idx_nat, List.getElem?_eq_getElem (by omega)]
      simp only [Option.bind_some]
      have e5 : IntKind.u8.wrap (shrI .u64 (n : Int) ((8 * i : Nat) : Int)) = ((n / 256 ^ i % 256 : Nat) : Int) := by
        rw [wrap8]
        simp only [shrI]
        have : min (((8 * i : Nat) : Int).toNat) IntKind.u64.bits = 8 * i := by simp [IntKind.bits]; omega
        rw [this, Int.fdiv_eq_ediv_of_nonneg _ (by have := two_pow_pos (8 * i); omega)]
        have e0 : (2 : Nat) ^ (8 * i) = 256 ^ i := Nat.pow_mul 2 8 i
        have e : ((2 : Int) ^ (8 * i)) = ((256 ^ i : Nat) : Int) := by rw [← e0]; push_cast; rfl
        rw [e]
        push_cast
        rfl
      rw [e5, show Int.toNat ((w - i - 1 : Nat) : Int) = w - i - 1 from rfl, wrap64 _ (by omega)]
      obtain ⟨m, hm⟩ : ∃ m, w - i = m + 1 := ⟨w - i - 1, by omega⟩
      have h3 := Put_L0 N n w hn hw k (i + 1) (by omega) (by omega)
      rw [show w - (i + 1) = m by omega, bigL] at h3
      rw [hm, Nat.add_sub_cancel, set_rep]
      exact_mod_cast h3
    · rw [if_neg (by omega)]
      have : i = w := by omega
      subst this
      rw [Nat.sub_self, List.replicate_zero, List.nil_append, bigL_map]
theorem oPut_eq (N n w : Nat) (hn : n < 18446744073709551616) (hw : w ≤ 8) (hN : 10 < N) : F_octet_Put N (n : Int) (w : Int) = some (bigB n w) := by
  have e1 : ifB (decide ((16 : Int) < (w : Int))) (16 : Int) (w : Int) = w := by rw [decide_eq_false (by omega)]; rfl
  simp only [F_octet_Put, cond_eq, leq_t, e1]
  by_cases h0 : (w : Int) ≤ 0
  · rw [if_pos h0]
    have : w = 0 := by omega
    subst this; rfl
  · rw [if_neg h0, if_pos (by simp; omega)]
    have := Put_L0 N n w hn hw N 0 (by omega) (by omega)
    simpa [bigL] using this
theorem oGet_step (a b : Nat) (ha : a < 72057594037927936) (hb : b < 256) : orI .u64 (shlI .u64 (a : Int) 8) (IntKind.u64.wrap (b : Int)) = ((a * 256 + b : Nat) : Int) := by
  have e1 : shlI .u64 (a : Int) 8 = ((a * 256 : Nat) : Int) := by
    simp only [shlI]
    have : min (Int.toNat 8) IntKind.u64.bits = 8 := rfl
    rw [this, show ((a : Int) * 2 ^ 8) = ((a * 256 : Nat) : Int) by push_cast; rfl, u64_wrap _ (by omega)]
  rw [e1, u64_wrap b (by omega), (orI_nat _ _ (by omega) (by omega)).1]
  have := Nat.shiftLeft_add_eq_or_of_lt (show b < 2 ^ 8 by omega) a
  rw [Nat.shiftLeft_eq] at this
  rw [← this]
theorem numB_take (s : List UInt8) (i : Nat) (hi : i < s.length) : numB (s.take (i + 1)) = numB (s.take i) * 256 + s[i].toNat := by
  rw [List.take_succ_eq_append_getElem hi, numB_app1]
theorem oGet_L1 (N : Nat) (s : List UInt8) (hl : s.length ≤ 8) : ∀ (k i : Nat), i ≤ s.length → s.length - i < k → F_octet_Get_L1 N s k (numB (s.take i) : Nat) (i : Int) = some ((numB s : Nat) : Int)
  | 0, i, h, h2 => by omega
  | k + 1, i, h, h2 => by
    simp only [F_octet_Get_L1, cond_eq, lss_t]
    by_cases hi : i < s.length
    · rw [if_pos (by omega), idx_nat, List.getElem?_eq_getElem hi]
      simp only [Option.bind_some]
      have h3 := numB_lt (s.take i)
      have h4 : 256 ^ (s.take i).length ≤ 256 ^ 7 := Nat.pow_le_pow_right (by omega) (by rw [List.length_take]; omega)
      have h5 : (256 : Nat) ^ 7 = 72057594037927936 := rfl
      rw [oGet_step _ _ (by omega) s[i].toNat_lt, ← numB_take s i hi, wrap64 _ (by omega)]
      exact_mod_cast oGet_L1 N s hl k (i + 1) (by omega) (by omega)
    · rw [if_neg (by omega), List.take_of_length_le (by omega)]
theorem oGet_eq (N : Nat) (s : List UInt8) (hl : s.length ≤ 8) (hN : 10 < N) : F_octet_Get N s = some ((numB s : Nat) : Int) := by
  simp only [F_octet_Get, cond_eq, gtr_t]
  rw [if_neg (by omega)]
  exact oGet_L1 N s hl N 0 (by omega) (by omega)
/-! the cursor -/
abbrev sane (s : List UInt8) : Prop := s.length < 4611686018427387904
theorem Take_eq (N : Nat) (s : List UInt8) (i n : Nat) (hs : sane s) (hi : i ≤ s.length) (hn : n < 4611686018427387904) : F_octet_Cursor_Take N ⟨s, i, 0⟩ (n : Int) =
    some (if n ≤ s.length - i then ((s.drop i).take n, ⟨s, ((i + n : Nat) : Int), 0⟩) else ([], ⟨s, i, 3⟩)) := by
  unfold sane at hs
  simp only [F_octet_Cursor_Take, F_octet_Cursor_ready, F_octet_Cursor_has, cond_eq, Option.bind_some, geq_t, show cmpI .eql (0 : Int) 0 = true from rfl, Bool.not_true, Bool.false_eq_true, if_false]
  rw [if_pos (by omega), wrap64 _ (by omega)]
  simp only [Option.bind_some, Bool.not_eq_true']
  by_cases h : n ≤ s.length - i
  · have e1 : cmpI .leq (n : Int) ((s.length : Int) - (i : Int)) = true := by rw [leq_t]; omega
    rw [e1, if_pos h, wrap64 _ (by omega)]
    simp only [Bool.true_eq_false, if_false]
    have e2 : ((i : Int) + (n : Int)) = ((i + n : Nat) : Int) := by push_cast; rfl
    rw [e2, if_pos (by simp), if_pos (by simp; omega), if_pos (by simp [Nat.ble_eq]; omega)]
    have e3 : ((i + n : Nat) : Int).toNat = i + n := rfl
    have e4 : (i : Int).toNat = i := rfl
    rw [e3, e4]
    rw [show (s.take (i + n)).drop i = (s.drop i).take n by rw [List.drop_take]; congr 1; omega]
  · have e1 : cmpI .leq (n : Int) ((s.length : Int) - (i : Int)) = false := by
      have : ¬ (cmpI .leq (n : Int) ((s.length : Int) - (i : Int)) = true) := by rw [leq_t]; omega
      exact Bool.eq_false_iff.2 this
    rw [e1, if_neg h]
    simp
theorem Left_eq (N : Nat) (s : List UInt8) (i : Nat) (e : Int) (hi : i ≤ s.length) : F_octet_Cursor_Left N ⟨s, i, e⟩ = some (((s.length - i : Nat) : Int), ⟨s, i, e⟩) := by
  simp only [F_octet_Cursor_Left, F_octet_Cursor_Rest, cond_eq]
  rw [if_pos (by simp), if_pos (by simp [Nat.ble_eq]; exact hi)]
  simp
theorem Number_eq (N : Nat) (s : List UInt8) (w : Nat) (hs : sane s) (hw : w ≤ 8) (hN : 10 < N) : F_octet_Cursor_Number N ⟨s, 0, 0⟩ (w : Int) =
    some (if w ≤ s.length then (((numB (s.take w) : Nat) : Int), ⟨s, (w : Int), 0⟩) else (0, ⟨s, 0, 3⟩)) := by
  simp only [F_octet_Cursor_Number]
  have := Take_eq N s 0 w hs (by omega) (by omega)
  rw [show ((0 : Nat) : Int) = 0 from rfl] at this
  rw [this]
  simp only [Option.bind_some, Nat.sub_zero, List.drop_zero, Nat.zero_add]
  by_cases h : w ≤ s.length
  · rw [if_pos h, if_pos h]
    simp only
    rw [oGet_eq N _ (by rw [List.length_take]; omega) hN]
    rfl
  · rw [if_neg h, if_neg h]
    dsimp only
    rw [oGet_eq N _ (by simp) hN]
    rfl
end
end Go.Av
namespace Go.Av
noncomputable section
open Go.Proofs
set_option maxRecDepth 100000
/-! the table -/
def wellC (code : Int) (t : Int × Int × Int × Bool × Bool) : Bool :=
  decide (t.1 = code) && decide (1 ≤ t.2.1 ∧ t.2.1 ≤ 25) && (t.2.2.2.2 == decide (22 ≤ t.2.1)) &&
  (t.2.2.2.2 || (if t.2.2.2.1 then decide ((t.2.2.1 = 1 ∨ t.2.2.1 = 4) ∧ 19 ≤ t.2.1 ∧ t.2.1 ≤ 21 ∧ t.1 ≠ 65)
    else if t.2.2.1 = 16 then decide ((t.2.1 = 15 ∨ t.2.1 = 18) ∧ t.1 ≠ 65)
    else decide (textS t.2.1 = false) && decide (t.2.2.1 = 0 ∨ t.2.2.1 = 1 ∨ t.2.2.1 = 2 ∨ t.2.2.1 = 4 ∨ t.2.2.1 = 8) &&
      decide (t.1 = 65 → t.2.2.1 = 0 ∧ t.2.1 = 2) && decide (t.2.2.1 = 1 → (bitsS t.2.1).1 ≤ 8 → (bitsS t.2.1).2 = false ∨ (bitsS t.2.1).1 = 8) && decide (2 ≤ t.2.2.1 → (bitsS t.2.1).1 = 8 * t.2.2.1)))
theorem wellC_all : ((List.range 40).all fun k => wellC (codeAt k) (tabAt k)) = true := by decide +kernel
structure Well (code : Int) (c : SCtor) : Prop where
  code : c.Code = code
  kind : 1 ≤ c.Kind ∧ c.Kind ≤ 25
  items : c.Items = decide (22 ≤ c.Kind)
  sized : c.Items = false → c.Sized = true → (c.Width = 1 ∨ c.Width = 4) ∧ 19 ≤ c.Kind ∧ c.Kind ≤ 21 ∧ c.Code ≠ 65
  wide : c.Items = false → c.Sized = false → c.Width = 16 → (c.Kind = 15 ∨ c.Kind = 18) ∧ c.Code ≠ 65
  num : c.Items = false → c.Sized = false → c.Width ≠ 16 → textS c.Kind = false ∧ (c.Width = 0 ∨ c.Width = 1 ∨ c.Width = 2 ∨ c.Width = 4 ∨ c.Width = 8) ∧ (c.Code = 65 → c.Width = 0 ∧ c.Kind = 2) ∧ (2 ≤ c.Width → (bitsS c.Kind).1 = 8 * c.Width)
theorem well (code : Int) (h : ofB code = true) : Well code (ofS code) := by
  have h1 : bsI code < 40 ∧ codeAt (bsI code) = code := by simpa [ofB] using h
  have hw := List.all_eq_true.1 wellC_all (bsI code) (by simpa using h1.1)
  rw [h1.2] at hw
  have e : ofT code = tabAt (bsI code) := by unfold ofT; rw [if_pos h]
  rw [← e] at hw
  have es : ofS code = ⟨(ofT code).1, (ofT code).2.1, (ofT code).2.2.1, (ofT code).2.2.2.1, (ofT code).2.2.2.2⟩ := rfl
  rw [es]
  generalize ofT code = t at hw
  obtain ⟨c, k, w, s, i⟩ := t
  simp only [wellC, Bool.and_eq_true, decide_eq_true_eq, beq_iff_eq] at hw
  obtain ⟨⟨⟨h1, h2⟩, h3⟩, h4⟩ := hw
  refine ⟨h1, h2, h3, ?_, ?_, ?_⟩ <;> intro hi hs <;> simp only at hi hs
  · rw [hi, hs] at h4
    simpa using h4
  · intro hw16
    simp only at hw16
    rw [hi, hs, if_pos hw16] at h4
    simpa using h4
  · intro hw16
    simp only at hw16
    rw [hi, hs, if_neg hw16] at h4
    simp only [Bool.false_or, Bool.and_eq_true, decide_eq_true_eq, Bool.false_eq_true, if_false] at h4
    exact ⟨h4.1.1.1.1, h4.1.1.1.2, h4.1.1.2, h4.2⟩
theorem ofS_none (code : Int) (h : ofB code = false) : ofS code = ⟨0, 0, 0, false, false⟩ := by
  unfold ofS ofT
  rw [h]; rfl
/-! what a value that may be is like -/
theorem check_ok {v : SValue} (h : checkS v = 0) : 1 ≤ v.Kind ∧ v.Kind ≤ 21 ∧ okNum v.Kind v.N' = true ∧ v.Items = [] ∧ (textS v.Kind = false → v.Text = []) ∧ (v.Kind = 15 ∨ v.Kind = 18 → v.Text.length = 16) ∧ v.Text.length ≤ 1048576 := by
  unfold checkS at h
  split at h
  · omega
  split at h
  · omega
  rename_i h1 h2
  have hi : v.Items = [] := by
    apply Classical.byContradiction
    intro hn; exact h2 (.inr hn)
  have ho : okNum v.Kind v.N' = true := by
    cases ho : okNum v.Kind v.N' with
    | true => rfl
    | false => exact absurd (.inl ho) h2
  split at h
  · split at h
    · omega
    · rename_i h3 h4
      have ht : v.Text = [] := by
        apply Classical.byContradiction
        intro hn; exact h4 hn
      refine ⟨by omega, by omega, ho, hi, fun _ => ht, fun hk => ?_, by rw [ht]; simp⟩
      rcases hk with hk | hk <;> rw [hk] at h3 <;> cases h3
  · split at h
    · omega
    split at h
    · omega
    rename_i h3 h4 h5
    exact ⟨by omega, by omega, ho, hi, fun ht => absurd ht h3, fun hk => by
      apply Classical.byContradiction
      intro hn; exact h4 ⟨hk, hn⟩, by omega⟩
theorem textS_num {k n : Int} (h : textS k = true) (hn : okNum k n = true) (h0 : 0 ≤ n) : n = 0 := by
  unfold textS at h
  simp only [decide_eq_true_eq] at h
  have hb : bitsS k = (0, false) := by
    rcases h with rfl | rfl | rfl | rfl | rfl <;> rfl
  simp only [okNum, Bool.and_eq_true, hb, fitsS, Bool.false_eq_true, if_false, decide_eq_true_eq] at hn
  have := hn.1
  simp at this
  omega
/-! numbers, there and back -/
theorem fits_back {c : SCtor} {n : Int} {w : Nat} (hw : c.Width = w) (h148 : w = 1 ∨ w = 2 ∨ w = 4 ∨ w = 8) (hn : okU n) (hf : fitsS n (8 * w) (bitsS c.Kind).2 = true) : widenS c ((n.toNat % 256 ^ w : Nat) : Int) = n := by
  obtain ⟨h0, h1⟩ := hn
  unfold widenS
  unfold fitsS s64 at hf
  cases hs : (bitsS c.Kind).2
  · rw [hs] at hf
    simp only [Bool.false_eq_true, if_false, decide_eq_true_eq] at hf
    simp only [Bool.false_eq_true, false_and, if_false]
    rcases h148 with rfl | rfl | rfl | rfl <;> simp at hf ⊢ <;> omega
  · rw [hs] at hf
    simp only [if_true, decide_eq_true_eq] at hf
    simp only [true_and, hw]
    rcases h148 with rfl | rfl | rfl | rfl <;> simp at hf ⊢ <;> split at hf <;> (try split) <;> omega
theorem widen_mod {c : SCtor} {n w : Nat} (hw : c.Width = w) (h148 : w = 1 ∨ w = 2 ∨ w = 4 ∨ w = 8) (hn : n < 256 ^ w) : okU (widenS c n) ∧ (widenS c n).toNat % 256 ^ w = n ∧ fitsS (widenS c n) (8 * w) (bitsS c.Kind).2 = true := by
  unfold widenS okU fitsS s64
  cases hs : (bitsS c.Kind).2
  · simp only [Bool.false_eq_true, false_and, if_false]
    rcases h148 with rfl | rfl | rfl | rfl <;> simp at hn ⊢ <;> omega
  · simp only [true_and, hw, if_true]
    rcases h148 with rfl | rfl | rfl | rfl <;> simp at hn ⊢ <;> split <;> refine ⟨by omega, by omega, ?_⟩ <;> (try split) <;> omega
theorem widen_eq (N : Nat) (c : SCtor) (n w : Nat) (hw : c.Width = w) (hww : w = 0 ∨ w = 1 ∨ w = 2 ∨ w = 4 ∨ w = 8) (hn : n < 256 ^ w) : F_amqprim_widen N c (n : Int) = some (widenS c n) := by
  simp only [F_amqprim_widen, bits_eq, Option.bind_some, cond_eq, gtr_t, widenS]
  cases hs : (bitsS c.Kind).2
  · simp
  · simp only [if_true, true_and, hw]
    rcases hww with rfl | hww
    · simp
    rcases hww with rfl | rfl | rfl | rfl
    · rw [if_pos (by omega), wrap64 (8 * ((1 : Nat) : Int)) (by omega), wrap64 _ (by omega), if_pos (by decide)]
      simp only [Nat.pow_one] at hn
      simp only [shrI, shlI, wrapU]
      simp only [Option.some.injEq]
      rw [show min (Int.toNat (64 - 8 * ((1 : Nat) : Int))) IntKind.u64.bits = 56 from rfl, show min (Int.toNat (64 - 8 * ((1 : Nat) : Int))) IntKind.i64.bits = 56 from rfl]
      simp only [IntKind.wrap, IntKind.bits, IntKind.signed]
      rw [Int.fdiv_eq_ediv_of_nonneg _ (by decide)]
      simp
      split <;> split <;> omega
    · rw [if_pos (by omega), wrap64 (8 * ((2 : Nat) : Int)) (by omega), wrap64 _ (by omega), if_pos (by decide)]
      simp at hn
      simp only [shrI, shlI, wrapU]
      simp only [Option.some.injEq]
      rw [show min (Int.toNat (64 - 8 * ((2 : Nat) : Int))) IntKind.u64.bits = 48 from rfl, show min (Int.toNat (64 - 8 * ((2 : Nat) : Int))) IntKind.i64.bits = 48 from rfl]
      simp only [IntKind.wrap, IntKind.bits, IntKind.signed]
      rw [Int.fdiv_eq_ediv_of_nonneg _ (by decide)]
      simp
      split <;> split <;> omega
    · rw [if_pos (by omega), wrap64 (8 * ((4 : Nat) : Int)) (by omega), wrap64 _ (by omega), if_pos (by decide)]
      simp at hn
      simp only [shrI, shlI, wrapU]
      simp only [Option.some.injEq]
      rw [show min (Int.toNat (64 - 8 * ((4 : Nat) : Int))) IntKind.u64.bits = 32 from rfl, show min (Int.toNat (64 - 8 * ((4 : Nat) : Int))) IntKind.i64.bits = 32 from rfl]
      simp only [IntKind.wrap, IntKind.bits, IntKind.signed]
      rw [Int.fdiv_eq_ediv_of_nonneg _ (by decide)]
      simp
      split <;> split <;> omega
    · rw [if_pos (by omega), wrap64 (8 * ((8 : Nat) : Int)) (by omega), wrap64 _ (by omega), if_pos (by decide)]
      simp at hn
      simp only [shrI, shlI, wrapU]
      simp only [Option.some.injEq]
      rw [show min (Int.toNat (64 - 8 * ((8 : Nat) : Int))) IntKind.u64.bits = 0 from rfl, show min (Int.toNat (64 - 8 * ((8 : Nat) : Int))) IntKind.i64.bits = 0 from rfl]
      simp only [IntKind.wrap, IntKind.bits, IntKind.signed]
      rw [Int.fdiv_eq_ediv_of_nonneg _ (by decide)]
      simp
      split <;> omega
end
end Go.Av
namespace Go.Av
noncomputable section
open Go.Proofs
set_option maxRecDepth 100000
theorem fitsC_t {code : Int} {v : SValue} (h : fitsC code v = true) : ofB code = true ∧ (ofS code).Kind = v.Kind ∧ checkS v = 0 ∧ saysS (ofS code) v = true := by
  simp only [fitsC, Bool.and_eq_true, decide_eq_true_eq] at h
  exact ⟨h.1.1.1, h.1.1.2, h.1.2, h.2⟩
theorem okU0 : okU 0 := ⟨by decide, by decide⟩
theorem okU1 : okU 1 := ⟨by decide, by decide⟩
/-- the shapes that a constructor of a scalar has -/
inductive Shape (c : SCtor) : Prop
  | sized (w : Nat) (hs : c.Sized = true) (hw : c.Width = w) (h : w = 1 ∨ w = 4) (hk : 19 ≤ c.Kind ∧ c.Kind ≤ 21) (hc : c.Code ≠ 65)
  | wide (hs : c.Sized = false) (hw : c.Width = 16) (hk : c.Kind = 15 ∨ c.Kind = 18) (hc : c.Code ≠ 65)
  | num (w : Nat) (hs : c.Sized = false) (hw : c.Width = w) (h : w = 0 ∨ w = 1 ∨ w = 2 ∨ w = 4 ∨ w = 8) (ht : textS c.Kind = false) (hc : c.Code = 65 → w = 0 ∧ c.Kind = 2) (hb : 2 ≤ w → (bitsS c.Kind).1 = 8 * w)
theorem Well.shape {code : Int} {c : SCtor} (h : Well code c) (hi : c.Items = false) : Shape c := by
  cases hs : c.Sized with
  | true =>
    obtain ⟨h1, h2, h3, h4⟩ := h.sized hi hs
    rcases h1 with h1 | h1
    · exact .sized 1 hs h1 (.inl rfl) ⟨h2, h3⟩ h4
    · exact .sized 4 hs h1 (.inr rfl) ⟨h2, h3⟩ h4
  | false =>
    by_cases h16 : c.Width = 16
    · obtain ⟨h1, h2⟩ := h.wide hi hs h16
      exact .wide hs h16 h1 h2
    · obtain ⟨h1, h2, h3, h4⟩ := h.num hi hs h16
      have hw : c.Width = (c.Width.toNat : Nat) := by omega
      refine .num c.Width.toNat hs hw (by omega) h1 (fun hc => ?_) (fun hb => ?_)
      · obtain ⟨q1, q2⟩ := h3 hc
        exact ⟨by omega, q2⟩
      · have := h4 (by omega)
        omega
theorem items_not {code : Int} {c : SCtor} (h : Well code c) (hk : c.Kind ≤ 21) : c.Items = false := by
  rw [h.items]
  exact decide_eq_false (by omega)
theorem wrapLen (n : Nat) (h : n < 4611686018427387904) : IntKind.u64.wrap (n : Int) = n := u64_wrap _ (by omega)
theorem sizedPut (N : Nat) (c : SCtor) (v : SValue) (w : Nat) (hw : c.Width = w) (h : w ≤ 8) (hl : v.Text.length ≤ 1048576) (hN : 10 < N) : F_amqprim_datum_sized N ⟨c, v⟩ = some (bigB v.Text.length w ++ v.Text) := by
  simp only [F_amqprim_datum_sized, wrapLen _ (show v.Text.length < 4611686018427387904 by omega), hw, oPut_eq N _ w (show v.Text.length < 18446744073709551616 by omega) h hN, Option.bind_some, cond_eq]
  rw [if_pos (by simp [Nat.ble_eq, bigB_len]; omega)]
theorem numPut (N : Nat) (c : SCtor) (v : SValue) (w : Nat) (hw : c.Width = w) (h : w ≤ 8) (hn : okU v.N') (hN : 10 < N) : F_amqprim_datum_number N ⟨c, v⟩ = some (bigB v.N'.toNat w) := by
  have e : v.N' = ((v.N'.toNat : Nat) : Int) := by have := hn.1; omega
  have hlt : v.N'.toNat < 18446744073709551616 := by have := hn.2; have := hn.1; omega
  simp only [F_amqprim_datum_number]
  rw [e, hw, oPut_eq N _ w hlt h hN]
  rfl
theorem beq_f {x y : Int} (h : x ≠ y) : (x == y) = false := by simp [h]
theorem Put_eq (N : Nat) (code : Int) (v : SValue) (hn : okU v.N') (h : v.Text.length < N) (hb : v.Text.length < 4611686018427387904) (hN : 10 < N) : F_amqprim_Put N code v = some (putS code v) := by
  simp only [F_amqprim_Put, Check_eq N v hn h hb, Fits_eq N code v hn h hb, F_amqprim_Of, Option.bind_some, cond_eq, neq_t, putS]
  by_cases h1 : checkS v = 0
  · rw [if_neg (show ¬ (checkS v ≠ 0) by simp [h1]), if_neg (show ¬ (checkS v ≠ 0) by simp [h1])]
    cases hf : fitsC code v with
    | false => rfl
    | true =>
      obtain ⟨f1, f2, f3, f4⟩ := fitsC_t hf
      obtain ⟨c1, c2, c3, c4, c5, c6, c7⟩ := check_ok f3
      have hw := well code f1
      have hi := items_not hw (by omega)
      simp only [Bool.not_true, Bool.false_eq_true, if_false, Bool.true_eq_false]
      generalize ofS code = c at *
      unfold dataS
      cases hw.shape hi with
      | sized w hs hw' h12 hk hc =>
        rw [hs, sizedPut N c v w hw' (by omega) c7 hN, hw']
        simp
      | wide hs hw' hk hc =>
        rw [hs, hw']
        simp only [Bool.false_eq_true, if_false]
        rw [if_neg (by decide), if_neg (by decide), if_neg (by decide), if_neg (by decide), if_neg (by decide), if_pos (by decide)]
        rfl
      | num w hs hw' hh ht hc hbb =>
        rw [hs, numPut N c v w hw' (by omega) hn hN, hw']
        simp only [Bool.false_eq_true, if_false, F_amqprim_datum_none, Option.bind_some]
        rcases hh with rfl | rfl | rfl | rfl | rfl
        · rw [if_pos (by decide), if_neg (by decide)]; rfl
        · rw [if_neg (by decide), if_pos (by decide), if_neg (by decide)]; rfl
        · rw [if_neg (by decide), if_neg (by decide), if_pos (by decide), if_neg (by decide)]; rfl
        · rw [if_neg (by decide), if_neg (by decide), if_neg (by decide), if_pos (by decide), if_neg (by decide)]; rfl
        · rw [if_neg (by decide), if_neg (by decide), if_neg (by decide), if_neg (by decide), if_pos (by decide), if_neg (by decide)]; rfl
  · rw [if_pos h1, if_pos h1]
theorem fin_if (k : Int) (v : SValue) (n : Int) : (if k = 0 then some (v, n, (0 : Int)) else if k = 2 then some (⟨0, 0, [], []⟩, 0, 5) else some (⟨0, 0, [], []⟩, 0, k)) = some (if k = 0 then (v, n, 0) else (zeroV, 0, if k = 2 then 5 else k)) := by
  split
  · rfl
  · split <;> rfl
theorem Get_eq (N : Nat) (code : Int) (s : List UInt8) (hs : sane s) (h : s.length < N) (hN : 20 < N) : F_amqprim_Get N code s = some (getS code s) := by
  simp only [F_amqprim_Get, F_amqprim_Of, Option.bind_some, cond_eq, getS]
  cases hb : ofB code with
  | false => simp only [Bool.not_false, if_true, true_or]; rfl
  | true =>
    have hw := well code hb
    simp only [Bool.not_true, Bool.false_eq_true, if_false, Bool.true_eq_false, false_or]
    cases hi : (ofS code).Items with
    | true => rfl
    | false =>
      simp only [Bool.false_eq_true, if_false]
      generalize ofS code = c at *
      have hz : (0 : Int) = ((0 : Nat) : Int) := rfl
      cases hw.shape hi with
      | sized w hsz hw' h12 hk hc =>
        rw [hsz, hw', Number_eq N s w hs (by omega) (by omega)]
        simp only [if_true, Option.bind_some, Int.toNat_natCast]
        by_cases hl : w ≤ s.length
        · rw [if_pos hl]
          simp only []
          rw [Left_eq N s w 0 hl, if_neg (by omega)]
          simp only [Option.bind_some, gtr_t]
          have hlt := numB_lt (s.take w)
          have h4 : 256 ^ (s.take w).length ≤ 256 ^ 4 := Nat.pow_le_pow_right (by omega) (by rw [List.length_take]; omega)
          have h5 : (256 : Nat) ^ 4 = 4294967296 := rfl
          unfold sane at hs
          rw [wrapLen _ (by omega)]
          generalize hm : numB (s.take w) = m at *
          by_cases h6 : s.length - w < m
          · rw [if_pos (by omega), if_pos h6]; rfl
          · rw [if_neg (by omega), if_neg h6]
            rw [wrap64 _ (by omega), Take_eq N s w m (by unfold sane; omega) hl (by omega), if_pos (by omega)]
            have hcl : ((s.drop w).take m).length ≤ s.length := by rw [List.length_take, List.length_drop]; omega
            simp only [Option.bind_some, F_octet_Cursor_Err, F_octet_Cursor_At, neq_t]
            rw [if_neg (by simp), Check_eq N _ okU0 (by dsimp only; omega) (by dsimp only; omega)]
            simp only [Option.bind_some, eql_t]
            rw [fin_if]
            unfold finS
            rw [show ((w + m : Nat) : Int) = (w : Int) + (m : Int) by push_cast; rfl]
        · rw [if_neg hl, if_pos (by omega)]
          simp only []
          have := Left_eq N s 0 3 (by omega)
          rw [← hz] at this
          rw [this]
          simp only [Option.bind_some, gtr_t]
          unfold sane at hs
          rw [wrapLen _ (by omega), if_neg (by omega)]
          have e0 : F_octet_Cursor_Take N ⟨s, 0, 3⟩ (IntKind.i64.wrap 0) = some ([], ⟨s, 0, 3⟩) := by
            simp only [F_octet_Cursor_Take, F_octet_Cursor_ready, Option.bind_some, cond_eq]
            rfl
          rw [e0]
          simp only [Option.bind_some, F_octet_Cursor_Err, neq_t]
          rw [if_pos (by decide)]; rfl
      | wide hsz hw' hk hc =>
        rw [hsz, hw']
        simp only [Bool.false_eq_true, if_false, eql_t, if_true]
        have := Take_eq N s 0 16 hs (by omega) (by omega)
        rw [← hz, show ((16 : Nat) : Int) = 16 from rfl] at this
        rw [this]
        simp only [Nat.sub_zero, List.drop_zero, Option.bind_some]
        by_cases hl : 16 ≤ s.length
        · rw [if_pos hl, if_neg (by omega)]
          have hcl : (s.take 16).length ≤ s.length := by rw [List.length_take]; omega
          unfold sane at hs
          simp only [Option.bind_some, F_octet_Cursor_Err, F_octet_Cursor_At, neq_t]
          rw [if_neg (by simp), Check_eq N _ okU0 (by dsimp only; omega) (by dsimp only; omega)]
          simp only [Option.bind_some]
          rw [fin_if]
          rfl
        · rw [if_neg hl, if_pos (by omega)]
          simp only [F_octet_Cursor_Err, Option.bind_some, neq_t]
          rw [if_pos (by decide)]; rfl
      | num w hsz hw' hh ht hc hbb =>
        rw [hsz, hw']
        simp only [Bool.false_eq_true, if_false, eql_t, Int.toNat_natCast]
        rw [if_neg (by omega), if_neg (show ¬ ((w : Int) = 16) by omega)]
        by_cases h65 : c.Code = 65
        · obtain ⟨rfl, hk2⟩ := hc h65
          rw [if_pos h65, if_pos h65, if_neg (by omega)]
          simp only [Option.bind_some, F_octet_Cursor_Err, F_octet_Cursor_At, neq_t]
          rw [if_neg (by simp), Check_eq N _ okU1 (by simp only [List.length_nil]; omega) (by simp only [List.length_nil]; omega)]
          simp only [Option.bind_some]
          rw [fin_if]
          rfl
        · rw [if_neg h65, if_neg h65, Number_eq N s w hs (by omega) (by omega)]
          simp only [Option.bind_some]
          by_cases hl : w ≤ s.length
          · rw [if_pos hl, if_neg (by omega)]
            have hlt := numB_lt (s.take w)
            rw [List.length_take, Nat.min_eq_left hl] at hlt
            simp only []
            rw [widen_eq N c _ w hw' hh hlt]
            simp only [Option.bind_some, F_octet_Cursor_Err, F_octet_Cursor_At, neq_t]
            have hu : okU (widenS c (numB (s.take w) : Nat)) := by
              rcases hh with rfl | hh
              · have : widenS c (numB (s.take 0) : Nat) = 0 := by
                  unfold widenS
                  rw [if_neg (by omega)]; rfl
                rw [this]; exact ⟨by decide, by decide⟩
              · exact (widen_mod hw' (by omega) hlt).1
            rw [if_neg (by simp), Check_eq N _ hu (by simp only [List.length_nil]; omega) (by simp only [List.length_nil]; omega)]
            simp only [Option.bind_some]
            rw [fin_if]
            rfl
          · rw [if_neg hl, if_pos (by omega)]
            simp only []
            rw [hz, widen_eq N c 0 w hw' hh (Nat.pow_pos (by omega))]
            simp only [Option.bind_some, F_octet_Cursor_Err, neq_t]
            rw [if_pos (by decide)]; rfl
end
end Go.Av
namespace Go.Av
noncomputable section
open Go.Proofs
set_option maxRecDepth 100000
theorem SValue.ext' {v w : SValue} (h1 : v.Kind = w.Kind) (h2 : v.N' = w.N') (h3 : v.Text = w.Text) (h4 : v.Items = w.Items) : v = w := by
  cases v; cases w; simp_all
theorem textS_sized {k : Int} (h : 19 ≤ k ∧ k ≤ 21) : textS k = true := by
  unfold textS; exact decide_eq_true (by omega)
theorem textS_wide {k : Int} (h : k = 15 ∨ k = 18) : textS k = true := by
  unfold textS; exact decide_eq_true (by omega)
/-- how many bytes a value's data have -/
theorem data_len {code : Int} {v : SValue} (hf : fitsC code v = true) : (dataS (ofS code) v).length = (ofS code).Width.toNat + (if (ofS code).Sized then v.Text.length else 0) := by
  obtain ⟨f1, f2, f3, f4⟩ := fitsC_t hf
  obtain ⟨c1, c2, c3, c4, c5, c6, c7⟩ := check_ok f3
  have hw := well code f1
  have hi := items_not hw (by omega)
  unfold dataS
  cases hw.shape hi with
  | sized w hs hw' h12 hk hc => rw [hs]; simp [bigB_len]
  | wide hs hw' hk hc =>
    rw [hs, hw']
    simp [c6 (by omega)]
  | num w hs hw' hh ht hc hbb =>
    rw [hs, hw']
    simp only [Bool.false_eq_true, if_false]
    rw [if_neg (by omega), bigB_len]; rfl
/-- the number of a value, of the width of its constructor -/
theorem num_fits {code : Int} {v : SValue} {w : Nat} (_hn : okU v.N') (hf : fitsC code v = true) (hs : (ofS code).Sized = false) (hw' : (ofS code).Width = w) (hh : w = 1 ∨ w = 2 ∨ w = 4 ∨ w = 8) (h65 : (ofS code).Code ≠ 65)
    (hbb : 2 ≤ w → (bitsS (ofS code).Kind).1 = 8 * w) : fitsS v.N' (8 * w) (bitsS (ofS code).Kind).2 = true := by
  obtain ⟨f1, f2, f3, f4⟩ := fitsC_t hf
  obtain ⟨c1, c2, c3, c4, c5, c6, c7⟩ := check_ok f3
  unfold saysS at f4
  rw [if_neg h65, hs, hw'] at f4
  simp only [Bool.false_eq_true, if_false] at f4
  rw [if_neg (by omega)] at f4
  by_cases h1 : w = 1
  · subst h1
    rw [if_pos (by decide)] at f4
    exact f4
  · simp only [okNum, Bool.and_eq_true] at c3
    have := c3.1
    rw [← f2, hbb (by omega)] at this
    exact this
/-- what is written is read back, whatever follows -/
theorem back {code : Int} {v : SValue} (hn : okU v.N') (hf : fitsC code v = true) (s : List UInt8) : getS code (dataS (ofS code) v ++ s) = (v, ((dataS (ofS code) v).length : Int), 0) := by
  have hlen := data_len hf
  obtain ⟨f1, f2, f3, f4⟩ := fitsC_t hf
  obtain ⟨c1, c2, c3, c4, c5, c6, c7⟩ := check_ok f3
  have hw := well code f1
  have hi := items_not hw (by omega)
  have nf := fun w => num_fits (w := w) hn hf
  unfold getS
  rw [f1, hi, if_neg (by simp)]
  have hd : dataS (ofS code) v = dataS (ofS code) v := rfl
  unfold dataS at hd hlen ⊢
  cases hw.shape hi with
  | sized w hs hw' h12 hk hc =>
    simp only [hs, hw', if_true, Int.toNat_natCast, List.append_assoc]
    have hbl := bigB_len w v.Text.length
    have e1 : (bigB v.Text.length w ++ (v.Text ++ s)).take w = bigB v.Text.length w := List.take_left' hbl
    have e2 : (bigB v.Text.length w ++ (v.Text ++ s)).drop w = v.Text ++ s := List.drop_left' hbl
    have htx : textS v.Kind = true := textS_sized (by omega)
    have hn0 := textS_num htx c3 hn.1
    have e3 : v.Text.length % 256 ^ w = v.Text.length := by
      apply Nat.mod_eq_of_lt
      unfold saysS at f4
      rw [if_neg hc, hs, if_pos rfl, hw'] at f4
      rcases h12 with rfl | rfl
      · simp at f4; omega
      · omega
    rw [e1, e2, numB_big, e3, List.take_left' rfl]
    rw [if_neg (by simp [hbl]; omega), if_neg (by simp [hbl])]
    have ev : (⟨(ofS code).Kind, 0, v.Text, []⟩ : SValue) = v := SValue.ext' f2 hn0.symm rfl c4.symm
    rw [ev, finS, if_pos f3]
    simp [hbl]
  | wide hs hw' hk hc =>
    simp only [hs, hw', Bool.false_eq_true, if_false, if_true]
    have h16 := c6 (by omega)
    have htx : textS v.Kind = true := textS_wide (by omega)
    have hn0 := textS_num htx c3 hn.1
    rw [if_neg (by simp [h16]; omega), List.take_left' h16]
    have ev : (⟨(ofS code).Kind, 0, v.Text, []⟩ : SValue) = v := SValue.ext' f2 hn0.symm rfl c4.symm
    rw [ev, finS, if_pos f3]
    simp [h16]
  | num w hs hw' hh ht hc hbb =>
    simp only [hs, hw', Bool.false_eq_true, if_false, Int.toNat_natCast]
    have h16 : ¬ ((w : Int) = 16) := by omega
    have hbl := bigB_len w v.N'.toNat
    have ht0 := c5 (by rw [← f2]; exact ht)
    simp only [h16, if_false]
    rw [if_neg (by simp [hbl]; omega)]
    by_cases h65 : (ofS code).Code = 65
    · obtain ⟨rfl, hk2⟩ := hc h65
      rw [if_pos h65]
      have hn1 : v.N' = 1 := by
        unfold saysS at f4
        rw [if_pos h65] at f4
        simpa using f4
      have ev : (⟨(ofS code).Kind, 1, [], []⟩ : SValue) = v := SValue.ext' f2 hn1.symm ht0.symm c4.symm
      rw [ev, finS, if_pos f3]
      simp [hbl]
    · rw [if_neg h65, List.take_left' hbl, numB_big]
      have e : widenS (ofS code) ((v.N'.toNat % 256 ^ w : Nat) : Int) = v.N' := by
        rcases hh with rfl | hh
        · unfold saysS at f4
          rw [if_neg h65, hs, hw'] at f4
          simp at f4
          unfold widenS
          rw [if_neg (by omega), f4]; rfl
        · exact fits_back hw' hh hn (nf w hs hw' hh h65 hbb)
      rw [e]
      have ev : (⟨(ofS code).Kind, v.N', [], []⟩ : SValue) = v := SValue.ext' f2 rfl ht0.symm c4.symm
      rw [ev, finS, if_pos f3]
      simp [hbl]
end
end Go.Av
namespace Go.Av
noncomputable section
open Go.Proofs
set_option maxRecDepth 100000
theorem fin_ok {v x : SValue} {n m : Int} (h : finS v n = (x, m, 0)) : checkS v = 0 ∧ x = v ∧ m = n := by
  unfold finS at h
  split at h
  · rename_i h0
    cases h
    exact ⟨h0, rfl, rfl⟩
  · rename_i h0
    simp only [Prod.mk.injEq] at h
    split at h <;> omega
theorem fin_bad {v x : SValue} {n m e : Int} (h : finS v n = (x, m, e)) (he : e ≠ 0) : m = 0 ∧ x = zeroV := by
  unfold finS at h
  split at h
  · cases h; exact absurd rfl he
  · cases h; exact ⟨rfl, rfl⟩
theorem get_bad {code : Int} {s : List UInt8} {x : SValue} {n e : Int} (h : getS code s = (x, n, e)) (he : e ≠ 0) : n = 0 ∧ x = zeroV := by
  unfold getS at h
  repeat' split at h
  all_goals first | exact fin_bad h he | (cases h; exact ⟨rfl, rfl⟩)
/-- what is read is valid, and is written the same -/
theorem reads {code : Int} {s : List UInt8} {x : SValue} {n : Int} (hs : sane s) (h : getS code s = (x, n, 0)) : 0 ≤ n ∧ n ≤ s.length ∧ okU x.N' ∧ x.Text.length ≤ s.length ∧ checkS x = 0 ∧ fitsC code x = true ∧ dataS (ofS code) x = s.take n.toNat := by
  unfold getS at h
  split at h
  · cases h
  rename_i h1
  have hb : ofB code = true := by
    cases hb : ofB code with
    | true => rfl
    | false => exact absurd (.inl hb) h1
  have hi : (ofS code).Items = false := by
    cases hi : (ofS code).Items with
    | false => rfl
    | true => exact absurd (.inr hi) h1
  have hw := well code hb
  split at h
  · cases h
  rename_i h2
  have fit : ∀ v : SValue, v.Kind = (ofS code).Kind → checkS v = 0 → saysS (ofS code) v = true → fitsC code v = true := fun v q1 q2 q3 => by
    simp only [fitsC, hb, q1, q2, q3, decide_true, Bool.and_self]
  have hd : ∀ v, dataS (ofS code) v = dataS (ofS code) v := fun _ => rfl
  unfold sane at hs
  cases hw.shape hi with
  | sized w hsz hw' h12 hk hc =>
    simp only [hsz, hw', if_true, Int.toNat_natCast] at h
    split at h
    · cases h
    rename_i h3
    obtain ⟨q1, rfl, rfl⟩ := fin_ok h
    have hlw : w ≤ s.length := by omega
    have hmlt := numB_lt (s.take w)
    rw [List.length_take, Nat.min_eq_left hlw] at hmlt
    have hbn := big_num (s.take w)
    rw [List.length_take, Nat.min_eq_left hlw] at hbn
    generalize hm : numB (s.take w) = m at *
    have hlen : ((s.drop w).take m).length = m := by rw [List.length_take, List.length_drop]; omega
    refine ⟨by omega, by omega, okU0, by simp only [hlen]; omega, q1, fit _ rfl q1 ?_, ?_⟩
    · unfold saysS
      rw [if_neg hc, hsz, if_pos rfl, hw']
      rcases h12 with rfl | rfl
      · simp only [hlen]
        simp at hmlt
        exact decide_eq_true (.inr (by omega))
      · exact decide_eq_true (.inl rfl)
    · unfold dataS
      simp only [hsz, if_true, hw', Int.toNat_natCast, hlen, hbn]
      rw [show ((w : Int) + (m : Int)).toNat = w + m by omega, List.take_add]
  | wide hsz hw' hk hc =>
    simp only [hsz, hw', Bool.false_eq_true, if_false, if_true] at h
    obtain ⟨q1, rfl, rfl⟩ := fin_ok h
    refine ⟨by omega, by omega, okU0, by simp only [List.length_take]; omega, q1, fit _ rfl q1 ?_, ?_⟩
    · unfold saysS
      rw [if_neg hc, hsz, hw']; rfl
    · unfold dataS
      simp only [hsz, hw', Bool.false_eq_true, if_false, if_true]
      rfl
  | num w hsz hw' hh ht hc hbb =>
    simp only [hsz, hw', Bool.false_eq_true, if_false, Int.toNat_natCast] at h
    rw [if_neg (show ¬ ((w : Int) = 16) by omega)] at h
    split at h
    · rename_i h65
      obtain ⟨rfl, hk2⟩ := hc h65
      obtain ⟨q1, rfl, rfl⟩ := fin_ok h
      refine ⟨by omega, by omega, okU1, by simp, q1, fit _ rfl q1 ?_, ?_⟩
      · unfold saysS
        rw [if_pos h65]; rfl
      · unfold dataS
        simp only [hsz, hw', Bool.false_eq_true, if_false]
        rfl
    · rename_i h65
      obtain ⟨q1, rfl, rfl⟩ := fin_ok h
      have hlw : w ≤ s.length := by omega
      have hlt := numB_lt (s.take w)
      have hbn := big_num (s.take w)
      rw [List.length_take, Nat.min_eq_left hlw] at hlt hbn
      rcases hh with rfl | hh
      · have e0 : widenS (ofS code) (numB (s.take 0) : Nat) = 0 := by
          unfold widenS
          rw [if_neg (by omega)]; rfl
        rw [e0] at q1 ⊢
        refine ⟨by omega, by omega, okU0, by simp, q1, fit _ rfl q1 ?_, ?_⟩
        · unfold saysS
          rw [if_neg h65, hsz, hw']; rfl
        · unfold dataS
          simp only [hsz, hw', Bool.false_eq_true, if_false]
          rfl
      · obtain ⟨w1, w2, w3⟩ := widen_mod hw' hh hlt
        refine ⟨by omega, by omega, w1, by simp, q1, fit _ rfl q1 ?_, ?_⟩
        · unfold saysS
          rw [if_neg h65, hsz, hw']
          simp only [Bool.false_eq_true, if_false]
          rw [if_neg (by omega)]
          split
          · rename_i h1
            have : w = 1 := by omega
            subst this
            exact w3
          · rfl
        · unfold dataS
          simp only [hsz, hw', Bool.false_eq_true, if_false, Int.toNat_natCast]
          rw [if_neg (by omega), ← bigB_mod, w2, hbn]
/-- different values have different data -/
theorem data_inj {code : Int} {v w : SValue} (hv : okU v.N') (hw : okU w.N') (fv : fitsC code v = true) (fw : fitsC code w = true) : dataS (ofS code) v = dataS (ofS code) w ↔ v = w := by
  refine ⟨fun h => ?_, fun h => by rw [h]⟩
  have h1 := back hv fv []
  have h2 := back hw fw []
  rw [h, h2] at h1
  exact (Prod.mk.inj h1).1.symm
end
end Go.Av
namespace Go.Av
noncomputable section
open Go.Proofs
set_option maxRecDepth 100000
/-- of each kind's constructors: they are some, of that kind, ordered by width; each once -/
def goodK (k : Int) : Bool := (codesF k).all (fun x => ofB x && (ofT x).1 == x && (ofT x).2.1 == k) && ((codesF k).zip (codesF k).tail).all (fun (x, y) => decide ((ofT x).2.2.1 ≤ (ofT y).2.2.1))
theorem goodK_all : ((List.range 26).all fun k => goodK k) = true := by decide +kernel
theorem goodK_any (k : Int) : goodK k = true := by
  by_cases h : k < 1 ∨ 25 < k
  · simp [goodK, codesF_out k h]
  · have := List.all_eq_true.1 goodK_all k.toNat (by simp; omega)
    rwa [show ((k.toNat : Nat) : Int) = k by omega] at this
theorem code_in (k x : Int) (h : x ∈ codesF k) : ofB x = true ∧ (ofS x).Code = x ∧ (ofS x).Kind = k := by
  have := goodK_any k
  simp only [goodK, Bool.and_eq_true, List.all_eq_true] at this
  have := this.1 x h
  simp only [beq_iff_eq] at this
  exact ⟨this.1.1, this.1.2, this.2⟩
theorem lives_eq (N : Nat) (h : 20 < N) : F_polyglotlaw16_lives N = some true := by
  simp only [F_polyglotlaw16_lives, F_polyglotkit_N, Option.bind_some]
  rw [Least_eq N ⟨5, 0, [], []⟩ ⟨by decide, by decide⟩ (by simp only [List.length_nil]; omega) (by omega) (by simp only [List.length_nil]; omega)]
  rw [Least_eq N ⟨5, 200, [], []⟩ ⟨by decide, by decide⟩ (by simp only [List.length_nil]; omega) (by omega) (by simp only [List.length_nil]; omega)]
  rw [Put_eq N 112 ⟨5, 300, [], []⟩ ⟨by decide, by decide⟩ (by simp only [List.length_nil]; omega) (by simp only [List.length_nil]; omega) (by omega)]
  have k5 : codesF 5 = [67, 82, 112] := by decide +kernel
  have b67 : ofB 67 = true := by decide +kernel
  have b82 : ofB 82 = true := by decide +kernel
  have b112 : ofB 112 = true := by decide +kernel
  have o67 : ofS 67 = ⟨67, 5, 0, false, false⟩ := by
    have : ofT 67 = (67, 5, 0, false, false) := by decide +kernel
    unfold ofS; rw [this]
  have o82 : ofS 82 = ⟨82, 5, 1, false, false⟩ := by
    have : ofT 82 = (82, 5, 1, false, false) := by decide +kernel
    unfold ofS; rw [this]
  have o112 : ofS 112 = ⟨112, 5, 4, false, false⟩ := by
    have : ofT 112 = (112, 5, 4, false, false) := by decide +kernel
    unfold ofS; rw [this]
  have c (n : Int) (h : n = 0 ∨ n = 200 ∨ n = 300) : checkS ⟨5, n, [], []⟩ = 0 := by
    rcases h with rfl | rfl | rfl <;> simp [checkS, okNum, fitsS, bitsS, textS]
  have e1 : leastS ⟨5, 0, [], []⟩ = (67, 0) := by
    unfold leastS
    simp only [k5, c 0 (.inl rfl), List.find?_cons, fitsC, b67, o67]
    rfl
  have e2 : leastS ⟨5, 200, [], []⟩ = (82, 0) := by
    unfold leastS
    simp only [k5, c 200 (.inr (.inl rfl)), List.find?_cons, fitsC, b67, o67, b82, o82]
    rfl
  have e3 : putS 112 ⟨5, 300, [], []⟩ = ([0, 0, 1, 44], 0) := by
    unfold putS
    simp only [c 300 (.inr (.inr rfl)), fitsC, b112, o112]
    rfl
  rw [e1, e2, e3]
  rfl
theorem decode_idx {l : List Int} {i : Int} (h0 : 0 ≤ i) (h1 : i < l.length) : ∃ x, idx l i = some x ∧ x ∈ l := by
  obtain ⟨n, rfl⟩ := Int.eq_ofNat_of_zero_le h0
  have hn : n < l.length := by omega
  refine ⟨l[n], ?_, List.getElem_mem hn⟩
  show l[n]? = _
  exact List.getElem?_eq_getElem hn
theorem J3_eq (N : Nat) (v : SValue) (x : SCtor × Bool) (code : Int) (hx : x.1 = ofS code) (_hb : ofB code = true) (hk : (ofS code).Kind = v.Kind) (_hn : okU v.N') : F_polyglotlaw16_AmqprimWidths_J3 N v x (putS code v) false = some true := by
  simp only [F_polyglotlaw16_AmqprimWidths_J3, cond_eq, Bool.false_eq_true, if_false, hx, neq_t, eql_t]
  unfold putS
  by_cases h1 : checkS v = 0
  · rw [if_neg (show ¬ (checkS v ≠ 0) by simp [h1])]
    cases hf : fitsC code v with
    | false => rfl
    | true =>
      have hl := data_len hf
      obtain ⟨f1, f2, f3, f4⟩ := fitsC_t hf
      obtain ⟨c1, c2, c3, c4, c5, c6, c7⟩ := check_ok f3
      have hw := well code f1
      have hi := items_not hw (by omega)
      simp only [Bool.true_eq_false, if_false]
      rw [if_neg (by simp)]
      unfold dataS at hl ⊢
      cases hw.shape hi with
      | sized w hs hw' h12 hk hc =>
        simp only [hs, hw', if_true, Int.toNat_natCast] at hl ⊢
        rw [wrap64 _ (by omega), if_pos (by rw [hl]; push_cast; rfl), if_pos (by simp), if_pos (by simp [Nat.ble_eq, bigB_len])]
        rw [List.take_length, List.drop_left' (bigB_len _ _)]
        simp [cmpS]
      | wide hs hw' hk hc =>
        simp only [hs, hw', Bool.false_eq_true, if_false, if_true] at hl ⊢
        rw [hl]; rfl
      | num w hs hw' hh ht hc hbb =>
        simp only [hs, hw', Bool.false_eq_true, if_false, Int.toNat_natCast] at hl ⊢
        rw [hl]; simp [cmpI]
  · rw [if_pos h1, if_pos (by exact h1)]; rfl
/-- wide constructors say what narrow ones say -/
theorem wider {a b : Int} {v : SValue} (ha : fitsC a v = true) (hb : ofB b = true) (hk : (ofS b).Kind = v.Kind) (h0 : 0 < (ofS a).Width) (hw : (ofS a).Width ≤ (ofS b).Width) : fitsC b v = true := by
  obtain ⟨f1, f2, f3, f4⟩ := fitsC_t ha
  obtain ⟨c1, c2, c3, c4, c5, c6, c7⟩ := check_ok f3
  have wa := well a f1
  have wb := well b hb
  have ia := items_not wa (by omega)
  have ib := items_not wb (by omega)
  simp only [fitsC, hb, hk, f3, decide_true, Bool.true_and]
  unfold saysS at f4 ⊢
  cases wa.shape ia with
  | sized w hs hw' h12 hk2 hc =>
    cases wb.shape ib with
    | sized w2 hs2 hw2 h2 hk3 hc2 =>
      rw [if_neg hc, hs, if_pos rfl] at f4
      rw [if_neg hc2, hs2, if_pos rfl]
      simp only [decide_eq_true_eq] at f4 ⊢
      omega
    | wide hs2 hw2 hk3 hc2 => omega
    | num w2 hs2 hw2 hh ht hc2 hbb =>
      have := textS_sized (k := (ofS a).Kind) hk2
      rw [f2, ← hk, ht] at this; cases this
  | wide hs hw' hk2 hc =>
    cases wb.shape ib with
    | sized w2 hs2 hw2 h2 hk3 hc2 => omega
    | wide hs2 hw2 hk3 hc2 =>
      rw [if_neg hc2, hs2, hw2]; rfl
    | num w2 hs2 hw2 hh ht hc2 hbb =>
      have := textS_wide (k := (ofS a).Kind) hk2
      rw [f2, ← hk, ht] at this; cases this
  | num w hs hw' hh ht hc hbb =>
    cases wb.shape ib with
    | sized w2 hs2 hw2 h2 hk3 hc2 =>
      have := textS_sized hk3
      rw [hk, ← f2, ht] at this; cases this
    | wide hs2 hw2 hk3 hc2 =>
      have := textS_wide hk3
      rw [hk, ← f2, ht] at this; cases this
    | num w2 hs2 hw2 hh2 ht2 hc2 hbb2 =>
      have h65 : (ofS a).Code ≠ 65 := fun h => by have := (hc h).1; omega
      have h65b : (ofS b).Code ≠ 65 := fun h => by have := (hc2 h).1; omega
      rw [if_neg h65, hs, if_neg (by simp), if_neg (by omega)] at f4
      rw [if_neg h65b, hs2, if_neg (by simp), if_neg (by omega)]
      split
      · rw [if_pos (by omega)] at f4
        rw [hk, ← f2]; exact f4
      · rfl
theorem J2_eq (N : Nat) (v w : SValue) (l : List Int) (k : Int) (x : SCtor × Bool) (hk0 : 0 ≤ k) (hk1 : k < l.length) (hx : ∀ c, idx l k = some c → x.1 = ofS c ∧ ofB c = true ∧ (ofS c).Kind = v.Kind)
    (hv : okU v.N') (hw : okU w.N') (lv : v.Text.length ≤ 400) (lw : w.Text.length ≤ 400) (sv : v.sz ≤ 40) (hN : 450 < N) : F_polyglotlaw16_AmqprimWidths_J2 N v w l k x false = some true := by
  obtain ⟨c, hc, _⟩ := decode_idx hk0 hk1
  obtain ⟨h1, h2, h3⟩ := hx c hc
  simp only [F_polyglotlaw16_AmqprimWidths_J2, cond_eq, Bool.false_eq_true, if_false, hc, Option.bind_some, Put_eq N c v hv (by omega) (by omega) (by omega), Put_eq N c w hw (by omega) (by omega) (by omega), eql_t,
    SameValue_eq N v w (by omega) (by omega), J3_eq N v x c h1 h2 h3 hv]
  by_cases p1 : (putS c v).2 = 0
  · by_cases p2 : (putS c w).2 = 0
    · rw [if_pos p1, if_pos p2]
      have q : ∀ u : SValue, (putS c u).2 = 0 → fitsC c u = true ∧ putS c u = (dataS (ofS c) u, 0) := fun u hu => by
        unfold putS at hu ⊢
        split at hu
        · rename_i hh; exact absurd hu hh
        · split at hu
          · simp at hu
          · rename_i a b
            rw [if_neg a, if_neg b]
            exact ⟨by simpa using b, rfl⟩
      obtain ⟨q1, q2⟩ := q v p1
      obtain ⟨q3, q4⟩ := q w p2
      have e : (!(cmpS .eql (putS c v).1 (putS c w).1 == decide (v = w))) = false := by
        rw [q2, q4]
        have := data_inj hv hw q1 q3
        by_cases hvw : v = w
        · subst hvw; simp [cmpS]
        · have : ¬ dataS (ofS c) v = dataS (ofS c) w := fun h => hvw (this.1 h)
          simp [cmpS, hvw, this]
      rw [e, J3_eq N v x c h1 h2 h3 hv]
    · rw [if_pos p1, if_neg p2]
  · rw [if_neg p1]
theorem Widths_true (N : Nat) (v w : SValue) (i k : Int) (hv : okU v.N') (hw : okU w.N') (hN : 500 < N) : F_polyglotlaw16_AmqprimWidths N v w i k = some true := by
  obtain ⟨b1, l1, l2⟩ := Light_spec N v (by omega)
  obtain ⟨b2, l3, l4⟩ := Light_spec N w (by omega)
  simp only [F_polyglotlaw16_AmqprimWidths, lives_eq N (by omega), Option.bind_some, cond_eq, Bool.not_true, Bool.false_eq_true, if_false, l1, l3]
  have jt : ∀ N v w i k, F_polyglotlaw16_AmqprimWidths_J0 N v w i k true = some true := fun N v w i k => rfl
  cases b1 with
  | false => exact jt ..
  | true =>
    simp only [Bool.not_true, Bool.false_eq_true, if_false]
    cases b2 with
    | false => exact jt ..
    | true =>
      obtain ⟨s1, t1⟩ := l2 rfl
      obtain ⟨s2, t2⟩ := l4 rfl
      rw [SValue.txt_eq] at t1 t2
      have hcl := codesF_len v.Kind
      simp only [Bool.not_true, F_polyglotlaw16_AmqprimWidths_J0, F_amqprim_Codes, Option.bind_some, cond_eq, Bool.false_eq_true, if_false, eql_t, rowsC_length, Check_eq N v hv (show v.Text.length < N by omega) (by omega)]
      have j1t : ∀ N v w i k l, F_polyglotlaw16_AmqprimWidths_J1 N v w i k l true = some true := fun N v w i k l => rfl
      split
      · exact j1t ..
      rename_i hlen
      by_cases hc : checkS v = 0
      · have e : cmpI .neq (checkS v) 0 = false := by rw [hc]; rfl
        rw [e]
        simp only [F_polyglotlaw16_AmqprimWidths_J1, cond_eq, Bool.false_eq_true, if_false, rowsC_length, F_amqprim_Of]
        have hL : ((codesF v.Kind).length : Int) ≥ 1 := by omega
        rw [Pick_eq N i _ hL (by omega), Pick_eq N k _ hL (by omega)]
        simp only [Option.bind_some]
        have i0 := Int.emod_nonneg i (show ((codesF v.Kind).length : Int) ≠ 0 by omega)
        have i1 := Int.emod_lt_of_pos i (show (0 : Int) < (codesF v.Kind).length by omega)
        have k0 := Int.emod_nonneg k (show ((codesF v.Kind).length : Int) ≠ 0 by omega)
        have k1 := Int.emod_lt_of_pos k (show (0 : Int) < (codesF v.Kind).length by omega)
        obtain ⟨a, ha, am⟩ := decode_idx i0 i1
        obtain ⟨b, hb, bm⟩ := decode_idx k0 k1
        obtain ⟨a1, a2, a3⟩ := code_in _ _ am
        obtain ⟨b1', b2', b3'⟩ := code_in _ _ bm
        simp only [ha, hb, Option.bind_some, gtr_t, leq_t, Fits_eq N _ v hv (show v.Text.length < N by omega) (by omega)]
        have j2 := J2_eq N v w (codesF v.Kind) (k % (codesF v.Kind).length) (ofS b, ofB b) k0 k1 (fun c hc => by
          rw [hb] at hc; cases hc; exact ⟨rfl, b1', b3'⟩) hv hw t1.1 t2.1 s1 (by omega)
        rw [j2]
        by_cases w1 : (ofS a).Width > 0
        · rw [if_pos w1]
          by_cases w2 : (ofS a).Width ≤ (ofS b).Width
          · rw [if_pos w2]
            cases hfa : fitsC a v with
            | false => rfl
            | true =>
              rw [wider hfa b1' b3' w1 w2]
              simp only [if_true, Bool.not_true]
              exact j2
          · rw [if_neg w2]
        · rw [if_neg w1]
      · have e : cmpI .neq (checkS v) 0 = true := by rw [neq_t]; exact hc
        rw [e]; exact j1t ..
end
end Go.Av
namespace Go.Av
noncomputable section
open Go.Proofs
set_option maxRecDepth 100000
theorem least_cases (v : SValue) : (∃ c, leastS v = (c, 0) ∧ (codesF v.Kind).find? (fun c => fitsC c v) = some c ∧ fitsC c v = true ∧ c ∈ codesF v.Kind) ∨ ((leastS v).2 ≠ 0 ∧ (leastS v).1 = 0 ∧ ∀ c ∈ codesF v.Kind, fitsC c v = false) := by
  unfold leastS
  by_cases h : checkS v = 0
  · rw [if_neg (show ¬ (checkS v ≠ 0) by simp [h])]
    cases hf : (codesF v.Kind).find? (fun c => fitsC c v) with
    | some c => exact .inl ⟨c, rfl, rfl, by simpa using List.find?_some hf, List.mem_of_find?_eq_some hf⟩
    | none =>
      refine .inr ⟨by simp [orL], rfl, fun c hc => ?_⟩
      have := List.find?_eq_none.1 hf c hc
      simpa using this
  · rw [if_pos h]
    refine .inr ⟨h, rfl, fun c _ => ?_⟩
    cases hf : fitsC c v with
    | false => rfl
    | true => exact absurd (fitsC_t hf).2.2.1 h
theorem put_ok {c : Int} {v : SValue} (h : fitsC c v = true) : putS c v = (dataS (ofS c) v, 0) := by
  unfold putS
  rw [if_neg (show ¬ (checkS v ≠ 0) by simp [(fitsC_t h).2.2.1]), h]; rfl
theorem put_no {c : Int} {v : SValue} (h : fitsC c v = false) : (putS c v).2 ≠ 0 := by
  unfold putS
  split
  · assumption
  · simp
/-- truncated, data are too short -/
theorem short {code : Int} {v : SValue} {k : Nat} (hf : fitsC code v = true) (hk : k < (dataS (ofS code) v).length) : getS code ((dataS (ofS code) v).take k) = (zeroV, 0, 3) := by
  have hlen := data_len hf
  obtain ⟨f1, f2, f3, f4⟩ := fitsC_t hf
  obtain ⟨c1, c2, c3, c4, c5, c6, c7⟩ := check_ok f3
  have hw := well code f1
  have hi := items_not hw (by omega)
  have hw0 : ((dataS (ofS code) v).take k).length = k := by rw [List.length_take]; omega
  unfold getS
  rw [f1, hi, if_neg (by simp), hw0]
  split
  · rfl
  rename_i hkw
  cases hw.shape hi with
  | sized w hs hw' h12 hk2 hc =>
    simp only [hs, hw', if_true, Int.toNat_natCast] at hlen hkw ⊢
    have hkw : w ≤ k := by omega
    have e1 : ((dataS (ofS code) v).take k).take w = bigB v.Text.length w := by
      rw [List.take_take, Nat.min_eq_left hkw]
      unfold dataS
      rw [hs, if_pos rfl, hw', Int.toNat_natCast, List.take_left' (bigB_len _ _)]
    have e3 : v.Text.length % 256 ^ w = v.Text.length := by
      apply Nat.mod_eq_of_lt
      unfold saysS at f4
      rw [if_neg hc, hs, if_pos rfl, hw'] at f4
      rcases h12 with rfl | rfl
      · simp at f4; omega
      · omega
    rw [e1, numB_big, e3, if_pos (by omega)]
  | wide hs hw' hk2 hc =>
    simp only [hs, hw', Bool.false_eq_true, if_false] at hlen hkw
    have : (16 : Int).toNat = 16 := rfl
    omega
  | num w hs hw' hh ht hc hbb =>
    simp only [hs, hw', Bool.false_eq_true, if_false] at hlen hkw
    omega
theorem Short_true (N : Nat) (v : SValue) (cut : Int) (hv : okU v.N') (hN : 1200 < N) : F_polyglotlaw16_AmqprimShort N v cut = some true := by
  obtain ⟨b1, l1, l2⟩ := Light_spec N v (by omega)
  simp only [F_polyglotlaw16_AmqprimShort, lives_eq N (by omega), Option.bind_some, cond_eq, Bool.not_true, Bool.false_eq_true, if_false, l1]
  cases b1 with
  | false => rfl
  | true =>
    obtain ⟨s1, t1⟩ := l2 rfl
    rw [SValue.txt_eq] at t1
    simp only [Bool.not_true, Bool.false_eq_true, if_false]
    rw [Least_eq N v hv (by omega) (by omega) (by omega)]
    simp only [Option.bind_some, neq_t, eql_t]
    rcases least_cases v with ⟨c, h1, h2, h3, h4⟩ | ⟨h1, h2, h3⟩
    · rw [h1, if_neg (by simp), Put_eq N c v hv (by omega) (by omega) (by omega), put_ok h3]
      simp only [Option.bind_some]
      rw [if_neg (by simp)]
      obtain ⟨f1, f2, f3, f4⟩ := fitsC_t h3
      have hlen := data_len h3
      have hww : (ofS c).Width.toNat ≤ 16 := by
        obtain ⟨c1, c2, _⟩ := check_ok f3
        have hw := well c f1
        cases hw.shape (items_not hw (by omega)) with
        | sized w hs hw' h12 hk2 hc => rw [hw']; omega
        | wide hs hw' hk2 hc => rw [hw']; decide
        | num w hs hw' hh ht hc hbb => rw [hw']; omega
      have hlt : (dataS (ofS c) v).length ≤ 416 := by
        rw [hlen]; split <;> omega
      split
      · rfl
      · rename_i hne
        have hL : ((dataS (ofS c) v).length : Int) ≥ 1 := by omega
        rw [Pick_eq N cut _ hL (by omega)]
        have i0 := Int.emod_nonneg cut (show ((dataS (ofS c) v).length : Int) ≠ 0 by omega)
        have i1 := Int.emod_lt_of_pos cut (show (0 : Int) < (dataS (ofS c) v).length by omega)
        generalize cut % ((dataS (ofS c) v).length : Int) = k at i0 i1
        obtain ⟨n, rfl⟩ := Int.eq_ofNat_of_zero_le i0
        simp only [Option.bind_some]
        rw [if_pos (by simp), if_pos (by simp [Nat.ble_eq]; omega), List.drop_zero, show Int.toNat (n : Int) = n from rfl]
        have hs : ((dataS (ofS c) v).take n).length ≤ 416 := by rw [List.length_take]; omega
        rw [Get_eq N c _ (by unfold sane; omega) (by omega) (by omega), short h3 (by omega)]
        rfl
    · rw [if_pos h1, h2]; rfl
end
end Go.Av
namespace Go.Av
noncomputable section
open Go.Proofs
set_option maxRecDepth 100000
def sortedK (k : Int) : Bool := decide ((codesF k).Pairwise (fun x y => (ofT x).2.2.1 ≤ (ofT y).2.2.1))
theorem sortedK_all : ((List.range 26).all fun k => sortedK k) = true := by decide +kernel
theorem sortedK_any (k : Int) : (codesF k).Pairwise (fun x y => (ofS x).Width ≤ (ofS y).Width) := by
  by_cases h : k < 1 ∨ 25 < k
  · rw [codesF_out k h]; exact .nil
  · have := List.all_eq_true.1 sortedK_all k.toNat (by simp; omega)
    rw [show ((k.toNat : Nat) : Int) = k by omega] at this
    exact of_decide_eq_true this
/-- wide constructors take no fewer bytes -/
theorem longer {a b : Int} {v : SValue} (ha : fitsC a v = true) (hb : fitsC b v = true) (hw : (ofS a).Width ≤ (ofS b).Width) : (dataS (ofS a) v).length ≤ (dataS (ofS b) v).length := by
  rw [data_len ha, data_len hb]
  obtain ⟨f1, f2, f3, f4⟩ := fitsC_t ha
  obtain ⟨g1, g2, g3, g4⟩ := fitsC_t hb
  obtain ⟨c1, c2, _⟩ := check_ok f3
  have wa := well a f1
  have wb := well b g1
  have hs : (ofS a).Sized = true → (ofS b).Sized = true := fun hs => by
    obtain ⟨_, q1, q2, _⟩ := wa.sized (items_not wa (by omega)) hs
    cases wb.shape (items_not wb (by omega)) with
    | sized w hs hw' h12 hk2 hc => exact hs
    | wide hs hw' hk2 hc => omega
    | num w hs hw' hh ht hc hbb =>
      have := textS_sized (k := (ofS b).Kind) (by omega)
      rw [ht] at this; cases this
  cases h : (ofS a).Sized with
  | true => rw [hs h]; simp only [if_true]; omega
  | false => simp only [Bool.false_eq_true, if_false]; omega
theorem fits_put (c : Int) (v : SValue) : cmpI .eql (putS c v).2 0 = fitsC c v := by
  cases h : fitsC c v with
  | true => rw [put_ok h]; rfl
  | false =>
    have := put_no h
    have : ¬ (cmpI .eql (putS c v).2 0 = true) := by rw [eql_t]; exact this
    exact Bool.eq_false_iff.2 this
theorem data_le {c : Int} {v : SValue} (h : fitsC c v = true) (ht : v.Text.length ≤ 400) : (dataS (ofS c) v).length ≤ 416 := by
  obtain ⟨f1, f2, f3, f4⟩ := fitsC_t h
  have hww : (ofS c).Width.toNat ≤ 16 := by
    obtain ⟨c1, c2, _⟩ := check_ok f3
    have hw := well c f1
    cases hw.shape (items_not hw (by omega)) with
    | sized w hs hw' h12 hk2 hc => rw [hw']; omega
    | wide hs hw' hk2 hc => rw [hw']; decide
    | num w hs hw' hh ht hc hbb => rw [hw']; omega
  rw [data_len h]; split <;> omega
/-- the end: what is read is written the same -/
theorem back_end (N : Nat) (s : List UInt8) (code : Int) (hs : s.length ≤ 600) (hN : 1200 < N) : ((F_amqprim_Get N code s).bind fun v163 =>
    if v163.2.2 ≠ 0 then some (cmpI .eql v163.2.1 0) else
    (F_amqprim_Put N code v163.1).bind fun v166 =>
    if v163.2.1 ≥ 0 then
    if v163.2.1 ≤ (s.length : Int) then
    (F_amqprim_Check N v163.1).bind fun v170 =>
    if v170 = 0 then
    if v166.2 = 0 then
    if decide (0 ≤ v163.2.1) = true then if (Nat.ble 0 v163.2.1.toNat && Nat.ble v163.2.1.toNat s.length) = true then some (cmpS .eql v166.1 ((s.take v163.2.1.toNat).drop 0)) else none else none
    else some false
    else some false
    else some false
    else some false) = some true := by
  have hsane : sane s := by unfold sane; omega
  rw [Get_eq N code s hsane (by omega) (by omega)]
  simp only [Option.bind_some]
  generalize hg : getS code s = g
  obtain ⟨x, n, e⟩ := g
  simp only
  by_cases he : e = 0
  · subst he
    obtain ⟨h1, h2, h3, h4, h5, h6, h7⟩ := reads hsane hg
    rw [if_neg (by simp), Put_eq N code x h3 (by omega) (by omega) (by omega), put_ok h6]
    simp only [Option.bind_some]
    rw [if_pos h1, if_pos h2, Check_eq N x h3 (by omega) (by omega), h5]
    simp only [Option.bind_some, if_true]
    rw [if_pos (by simpa using h1), if_pos (by simp [Nat.ble_eq]; omega), List.drop_zero, h7]
    simp [cmpS]
  · rw [if_pos he]
    obtain ⟨h1, h2⟩ := get_bad hg he
    rw [h1]; rfl
theorem back_mid (N : Nat) (v : SValue) (s : List UInt8) (c : Int) (X : Int → Option Bool) (sh : Int) (hv : okU v.N') (ht : v.Text.length ≤ 400) (hz : v.sz ≤ 40) (hs : s.length ≤ 600) (hN : 1200 < N) (hf : fitsC c v = true) (hX : X sh = some true) :
    (if Nat.ble ((dataS (ofS c) v).length + s.length) 4611686018427387904 = true then (F_amqprim_Get N c (dataS (ofS c) v ++ s)).bind fun v122 =>
    if v122.2.2 ≠ 0 then some false else
    if v122.2.1 ≠ ((dataS (ofS c) v).length : Int) then some false else
    (F_polyglotkit_SameValue N v122.1 v).bind fun v126 =>
    if (!v126) = true then some false else X sh else none) = some true := by
  have hl := data_le hf ht
  rw [if_pos (by simp [Nat.ble_eq]; omega), Get_eq N c _ (by unfold sane; rw [List.length_append]; omega) (by rw [List.length_append]; omega) (by omega), back hv hf s]
  simp only [Option.bind_some]
  rw [if_neg (by simp), if_neg (by simp), SameValue_eq N v v (by omega) (by omega)]
  simpa using hX
theorem Back_L0 (N : Nat) (v : SValue) (s : List UInt8) (code : Int) (hv : okU v.N') (ht : v.Text.length ≤ 400) (hz : v.sz ≤ 40) (hs : s.length ≤ 600) (hN : 1200 < N) : ∀ (n i : Nat) (sh : Int), i ≤ (codesF v.Kind).length → (codesF v.Kind).length - i < n →
    (sh = -1 ∧ ∀ x ∈ (codesF v.Kind).take i, fitsC x v = false) ∨ (∃ f0, (leastS v) = (f0, 0) ∧ f0 ∈ (codesF v.Kind).take i ∧ fitsC f0 v = true ∧ sh = ((dataS (ofS f0) v).length : Int)) →
    F_polyglotlaw16_AmqprimBack_L0 N v s code (leastS v) (codesF v.Kind) n sh (i : Int) = some true
  | 0, i, sh, _, h, _ => by omega
  | n + 1, i, sh, hi, hn, inv => by
    have hcl := codesF_len v.Kind
    have be := back_end N s code hs hN
    simp only [F_polyglotlaw16_AmqprimBack_L0, cond_eq, lss_t, neq_t, eql_t, geq_t, leq_t, rowsC_length, idx_nat]
    simp only [be]
    by_cases h1 : i < (codesF v.Kind).length
    · have r1 : i + 1 ≤ (codesF v.Kind).length := h1
      have r2 : (codesF v.Kind).length - (i + 1) < n := by clear inv; omega
      rw [if_pos (by omega), List.getElem?_eq_getElem h1]
      have hmem : (codesF v.Kind)[i] ∈ codesF v.Kind := List.getElem_mem h1
      have htk : (codesF v.Kind).take (i + 1) = (codesF v.Kind).take i ++ [(codesF v.Kind)[i]] := List.take_succ_eq_append_getElem h1
      have hcd : ∀ f0 ∈ (codesF v.Kind).take i, (ofS f0).Width ≤ (ofS (codesF v.Kind)[i]).Width := fun f0 hf0 => by
        obtain ⟨j, hj, rfl⟩ := List.mem_iff_getElem.1 hf0
        rw [List.length_take] at hj
        rw [List.getElem_take]
        exact List.pairwise_iff_getElem.1 (sortedK_any v.Kind) j i (by omega) h1 (by omega)
      generalize hc : (codesF v.Kind)[i] = c at *
      have rec' := fun sh' h' => Back_L0 N v s code hv ht hz hs hN n (i + 1) sh' r1 r2 h'
      have ei : IntKind.i64.wrap ((i : Int) + 1) = ((i + 1 : Nat) : Int) := by rw [wrap64 _ (by omega)]; push_cast; rfl
      simp only [Option.bind_some, Put_eq N c v hv (show v.Text.length < N by omega) (by omega) (by omega), Fits_eq N c v hv (show v.Text.length < N by omega) (by omega), fits_put, ei]
      rw [if_neg (by simp)]
      cases hf : fitsC c v with
      | false =>
        rw [if_pos (put_no hf)]
        refine rec' sh ?_
        rcases inv with ⟨q1, q2⟩ | ⟨f0, q1, q2, q3⟩
        · exact .inl ⟨q1, fun x hx => by
            rw [htk] at hx
            rcases List.mem_append.1 hx with hx | hx
            · exact q2 x hx
            · simp at hx; subst hx; exact hf⟩
        · exact .inr ⟨f0, q1, by rw [htk]; exact List.mem_append_left _ q2, q3⟩
      | true =>
        rw [put_ok hf]
        simp only []
        rw [if_neg (by simp)]
        rcases least_cases v with ⟨f1, g1, g2, g3, g4⟩ | ⟨g1, g2, g3⟩
        · rw [g1]
          simp only []
          rw [if_neg (by simp)]
          rcases inv with ⟨q1, q2⟩ | ⟨f0, q1, q2, q3, q4⟩
          · have ef : f1 = c := by
              have e : codesF v.Kind = (codesF v.Kind).take i ++ c :: (codesF v.Kind).drop (i + 1) := by
                rw [← hc, ← List.drop_eq_getElem_cons h1, List.take_append_drop]
              rw [e, List.find?_append, List.find?_eq_none.2 (fun x hx => by simp [q2 x hx]), List.find?_cons, hf] at g2
              simpa using g2.symm
            subst q1
            rw [if_pos (by decide), if_neg (by simp [ef]), if_neg (by decide)]
            have := rec' ((dataS (ofS c) v).length : Int) (.inr ⟨c, by rw [g1, ef], by rw [htk]; simp, hf, rfl⟩)
            rw [g1] at this
            exact back_mid N v s c (fun sh => F_polyglotlaw16_AmqprimBack_L0 N v s code (f1, 0) (codesF v.Kind) n sh ((i + 1 : Nat) : Int)) _ hv ht hz hs hN hf this
          · have hle := longer q3 hf (hcd f0 q2)
            rw [if_neg (by omega), if_pos (by omega), if_neg (by omega)]
            have := rec' sh (.inr ⟨f0, q1, by rw [htk]; exact List.mem_append_left _ q2, q3, q4⟩)
            rw [g1] at this
            exact back_mid N v s c (fun sh => F_polyglotlaw16_AmqprimBack_L0 N v s code (f1, 0) (codesF v.Kind) n sh ((i + 1 : Nat) : Int)) _ hv ht hz hs hN hf this
        · rw [g3 c hmem] at hf; cases hf
    · rw [if_neg (by omega)]
      split
      · rename_i h0
        rcases least_cases v with ⟨f1, g1, g2, g3, g4⟩ | ⟨g1, g2, g3⟩
        · rcases inv with ⟨q1, q2⟩ | ⟨f0, q1, q2, q3, q4⟩
          · rw [List.take_of_length_le (by omega)] at q2
            rw [q2 f1 g4] at g3; cases g3
          · rw [if_neg (by omega)]
        · exact absurd h0 g1
      · rfl
theorem Back_true (N : Nat) (v : SValue) (s : List UInt8) (code : Int) (hv : okU v.N') (hN : 1200 < N) : F_polyglotlaw16_AmqprimBack N v s code = some true := by
  obtain ⟨b1, l1, l2⟩ := Light_spec N v (by omega)
  simp only [F_polyglotlaw16_AmqprimBack, lives_eq N (by omega), Option.bind_some, cond_eq, Bool.not_true, Bool.false_eq_true, if_false, l1, gtr_t]
  cases b1 with
  | false => rfl
  | true =>
    obtain ⟨s1, t1⟩ := l2 rfl
    rw [SValue.txt_eq] at t1
    simp only [Bool.not_true, Bool.false_eq_true, if_false]
    split
    · rfl
    · rw [Least_eq N v hv (by omega) (by omega) (by omega)]
      simp only [Option.bind_some, F_amqprim_Codes]
      have hcl := codesF_len v.Kind
      exact Back_L0 N v s code hv t1.1 s1 (by omega) hN N 0 (-1) (by omega) (by omega) (.inl ⟨rfl, fun x hx => by simp at hx⟩)
end
end Go.Av
namespace Go.Av
noncomputable section
open Go.Proofs
set_option maxRecDepth 100000
/-! the reference: its table -/
def refTab : List SCtor := (F_polyglotref16_table 0).getD []
theorem refTab_eq (N : Nat) : F_polyglotref16_table N = some refTab := rfl
theorem refTab_len : refTab.length = 40 := rfl
def tupC (c : SCtor) : Int × Int × Int × Bool × Bool := (c.Code, c.Kind, c.Width, c.Sized, c.Items)
theorem tupC_inj {c d : SCtor} (h : tupC c = tupC d) : c = d := by
  cases c; cases d
  simp only [tupC, Prod.mk.injEq] at h
  simp [h]
def fndO : Option SCtor → SCtor × Bool
  | some c => (c, true)
  | none => (⟨0, 0, 0, false, false⟩, false)
theorem refOf_L0 (N : Nat) (code : Int) (l : List SCtor) (hl : l.length < 1000) : ∀ (n i : Nat), i ≤ l.length → l.length - i < n → F_polyglotref16_Of_L0 N code l n (i : Int) = some (fndO ((l.drop i).find? (fun c => decide (c.Code = code))))
  | 0, i, _, h => by omega
  | n + 1, i, hi, hn => by
    simp only [F_polyglotref16_Of_L0, cond_eq, lss_t, eql_t, rowsC_length, idx_nat]
    by_cases h : i < l.length
    · rw [if_pos (by omega), List.getElem?_eq_getElem h, List.drop_eq_getElem_cons h, List.find?_cons]
      simp only [Option.bind_some]
      by_cases hc : l[i].Code = code
      · rw [if_pos hc, decide_eq_true hc]; rfl
      · rw [if_neg hc, decide_eq_false hc, wrap64 _ (by omega)]
        exact_mod_cast refOf_L0 N code l hl n (i + 1) (by omega) (by omega)
    · rw [if_neg (by omega), List.drop_of_length_le (by omega)]; rfl
def refB (n : Nat) : Bool := decide ((tupC (fndO (refTab.find? (fun c => decide (c.Code = (n : Int))))).1, (fndO (refTab.find? (fun c => decide (c.Code = (n : Int))))).2) = (tupC (ofS n), ofB n))
theorem refB_all : ((List.range 256).all refB) = true := by decide +kernel
theorem ofB_range {code : Int} (h : ofB code = true) : 0 ≤ code ∧ code < 256 := by
  have h1 : bsI code < 40 ∧ codeAt (bsI code) = code := by simpa [ofB] using h
  have hall : ((List.range 40).all fun k => decide (0 ≤ codeAt k ∧ codeAt k < 256)) = true := by decide +kernel
  have := List.all_eq_true.1 hall (bsI code) (by simpa using h1.1)
  rw [h1.2] at this
  simpa using this
theorem ref_range : (refTab.all fun c => decide (0 ≤ c.Code ∧ c.Code < 256)) = true := by decide +kernel
theorem refOf_eq (N : Nat) (code : Int) (hN : 50 < N) : F_polyglotref16_Of N code = some (ofS code, ofB code) := by
  simp only [F_polyglotref16_Of, refTab_eq, Option.bind_some]
  have := refOf_L0 N code refTab (by rw [refTab_len]; omega) N 0 (by omega) (by rw [refTab_len]; omega)
  rw [show ((0 : Nat) : Int) = 0 from rfl] at this
  rw [this, List.drop_zero, Option.some.injEq]
  by_cases h : 0 ≤ code ∧ code < 256
  · have h1 := List.all_eq_true.1 refB_all code.toNat (by simp; omega)
    simp only [refB, show ((code.toNat : Nat) : Int) = code by omega, decide_eq_true_eq, Prod.mk.injEq] at h1
    exact Prod.ext (tupC_inj h1.1) h1.2
  · have hb : ofB code = false := by
      cases hb : ofB code with
      | false => rfl
      | true => exact absurd (ofB_range hb) h
    have hf : refTab.find? (fun c => decide (c.Code = code)) = none := by
      rw [List.find?_eq_none]
      intro c hc hcc
      have := List.all_eq_true.1 ref_range c hc
      simp only [decide_eq_true_eq] at this hcc
      omega
    rw [hf, hb, ofS_none code hb]; rfl
theorem refCodes_L0 (N : Nat) (kind : Int) (l : List SCtor) (hl : l.length < 1000) : ∀ (n i : Nat) (acc : List Int), i ≤ l.length → l.length - i < n → acc.length ≤ i → F_polyglotref16_Codes_L0 N kind l n (i : Int) acc = some (acc ++ ((l.drop i).filter (fun c => decide (c.Kind = kind))).map (·.Code))
  | 0, i, acc, _, h, _ => by omega
  | n + 1, i, acc, hi, hn, ha => by
    simp only [F_polyglotref16_Codes_L0, cond_eq, lss_t, eql_t, rowsC_length, idx_nat]
    by_cases h : i < l.length
    · rw [if_pos (by omega), List.getElem?_eq_getElem h, List.drop_eq_getElem_cons h, List.filter_cons]
      simp only [Option.bind_some]
      by_cases hc : l[i].Kind = kind
      · rw [if_pos hc, decide_eq_true hc, if_pos (by simp [Nat.ble_eq]; omega), wrap64 _ (by omega)]
        have := refCodes_L0 N kind l hl n (i + 1) (acc ++ [l[i].Code]) (by omega) (by omega) (by simp; omega)
        rw [show ((i : Int) + 1) = ((i + 1 : Nat) : Int) by push_cast; rfl, this]
        simp
      · rw [if_neg hc, decide_eq_false hc, wrap64 _ (by omega)]
        have := refCodes_L0 N kind l hl n (i + 1) acc (by omega) (by omega) (by omega)
        rw [show ((i : Int) + 1) = ((i + 1 : Nat) : Int) by push_cast; rfl, this]
        simp
    · rw [if_neg (by omega), List.drop_of_length_le (by omega)]; simp
theorem refK_all : ((List.range 26).all fun k => decide ((refTab.filter (fun c => decide (c.Kind = (k : Int)))).map (·.Code) = codesF k)) = true := by decide +kernel
theorem refK_range : (refTab.all fun c => decide (1 ≤ c.Kind ∧ c.Kind ≤ 25)) = true := by decide +kernel
theorem refCodes_eq (N : Nat) (kind : Int) (hN : 50 < N) : F_polyglotref16_Codes N kind = some (codesF kind) := by
  simp only [F_polyglotref16_Codes, refTab_eq, Option.bind_some]
  have := refCodes_L0 N kind refTab (by rw [refTab_len]; omega) N 0 [] (by omega) (by rw [refTab_len]; omega) (by simp)
  rw [show ((0 : Nat) : Int) = 0 from rfl] at this
  rw [this, List.drop_zero, List.nil_append, Option.some.injEq]
  by_cases h : kind < 1 ∨ 25 < kind
  · rw [codesF_out kind h, List.map_eq_nil_iff, List.filter_eq_nil_iff]
    intro c hc hcc
    have := List.all_eq_true.1 refK_range c hc
    simp only [decide_eq_true_eq] at this hcc
    omega
  · have h1 := List.all_eq_true.1 refK_all kind.toNat (by simp; omega)
    simp only [show ((kind.toNat : Nat) : Int) = kind by omega, decide_eq_true_eq] at h1
    exact h1
/-! texts -/
theorem inB_drop (s : List UInt8) (i k lo hi : Nat) : inB (s.drop i) k lo hi = inB s (i + k) lo hi := by
  unfold inB
  rw [List.getElem?_drop]
theorem after_eq (N : Nat) (s : List UInt8) (i k lo hi : Nat) : F_polyglotref16_after N s ((i + k : Nat) : Int) (lo : Int) (hi : Int) = some (inB (s.drop i) k lo hi) := by
  rw [inB_drop]
  simp only [F_polyglotref16_after, cond_eq, lss_t, geq_t, idx_nat, inB]
  by_cases h : i + k < s.length
  · rw [if_pos (by omega), List.getElem?_eq_getElem h]
    simp only [Option.bind_some]
    by_cases h1 : lo ≤ s[i + k].toNat
    · rw [if_pos (by omega)]
      simp only [cmpI, h1, true_and, Option.some.injEq, decide_eq_decide]; omega
    · rw [if_neg (by omega)]
      simp only [h1, false_and, decide_false]
  · rw [if_neg (by omega), List.getElem?_eq_none (by omega)]
/-- the length of the code point at the head, by its first byte -/
def cpB (s : List UInt8) (b : Nat) : Nat := if b < 128 then 1
    else if 194 ≤ b ∧ b ≤ 223 then (if inB s 1 128 191 then 2 else 0)
    else if b = 224 then (if inB s 1 160 191 && inB s 2 128 191 then 3 else 0)
    else if b = 237 then (if inB s 1 128 159 && inB s 2 128 191 then 3 else 0)
    else if 225 ≤ b ∧ b ≤ 239 then (if inB s 1 128 191 && inB s 2 128 191 then 3 else 0)
    else if b = 240 then (if inB s 1 144 191 && inB s 2 128 191 && inB s 3 128 191 then 4 else 0)
    else if 241 ≤ b ∧ b ≤ 243 then (if inB s 1 128 191 && inB s 2 128 191 && inB s 3 128 191 then 4 else 0)
    else if b = 244 then (if inB s 1 128 143 && inB s 2 128 191 && inB s 3 128 191 then 4 else 0)
    else 0
theorem step_cases (b : Nat) : (b < 128) ∨ (194 ≤ b ∧ b ≤ 223) ∨ (b = 224) ∨ (b = 237) ∨ (225 ≤ b ∧ b ≤ 239 ∧ b ≠ 237) ∨ (b = 240) ∨ (241 ≤ b ∧ b ≤ 243) ∨ (b = 244) ∨ (128 ≤ b ∧ b < 194) ∨ (244 < b) := by omega
theorem step_eq (N : Nat) (s : List UInt8) (i : Nat) (hb : s.length < 4611686018427387904) (hi : i < s.length) : F_polyglotref16_step N s (i : Int) = some ((cpN (s.drop i) : Nat) : Int) := by
  have e1 : IntKind.i64.wrap ((i : Int) + 1) = ((i + 1 : Nat) : Int) := by rw [wrap64 _ (by omega)]; push_cast; rfl
  have e2 : IntKind.i64.wrap ((i : Int) + 2) = ((i + 2 : Nat) : Int) := by rw [wrap64 _ (by omega)]; push_cast; rfl
  have e3 : IntKind.i64.wrap ((i : Int) + 3) = ((i + 3 : Nat) : Int) := by rw [wrap64 _ (by omega)]; push_cast; rfl
  have c0 : F_polyglotref16_after N s ((i + 1 : Nat) : Int) 128 191 = some (inB (s.drop i) 1 128 191) := after_eq N s i 1 128 191
  have c1 : F_polyglotref16_after N s ((i + 2 : Nat) : Int) 128 191 = some (inB (s.drop i) 2 128 191) := after_eq N s i 2 128 191
  have c2 : F_polyglotref16_after N s ((i + 3 : Nat) : Int) 128 191 = some (inB (s.drop i) 3 128 191) := after_eq N s i 3 128 191
  have c3 : F_polyglotref16_after N s ((i + 1 : Nat) : Int) 160 191 = some (inB (s.drop i) 1 160 191) := after_eq N s i 1 160 191
  have c4 : F_polyglotref16_after N s ((i + 1 : Nat) : Int) 128 159 = some (inB (s.drop i) 1 128 159) := after_eq N s i 1 128 159
  have c5 : F_polyglotref16_after N s ((i + 1 : Nat) : Int) 144 191 = some (inB (s.drop i) 1 144 191) := after_eq N s i 1 144 191
  have c6 : F_polyglotref16_after N s ((i + 1 : Nat) : Int) 128 143 = some (inB (s.drop i) 1 128 143) := after_eq N s i 1 128 143
  have hd : s.drop i = s[i] :: s.drop (i + 1) := List.drop_eq_getElem_cons hi
  have hcp : cpN (s.drop i) = cpB (s.drop i) s[i].toNat := by
    rw [hd]; rfl
  rw [hcp]
  simp only [F_polyglotref16_step, F_polyglotref16_step_J0, F_polyglotref16_step_J1, F_polyglotref16_step_J2, F_polyglotref16_step_J3, F_polyglotref16_step_J4, F_polyglotref16_step_J5, F_polyglotref16_step_J6, idx_nat, List.getElem?_eq_getElem hi, Option.bind_some, cond_eq, lss_t, geq_t, leq_t, eql_t, neq_t, e1, e2, e3]
  simp only [c0, c1, c2, c3, c4, c5, c6, Option.bind_some, cpB]
  generalize s[i].toNat = b
  generalize inB (s.drop i) 1 128 191 = q1
  generalize inB (s.drop i) 2 128 191 = q2
  generalize inB (s.drop i) 3 128 191 = q3
  generalize inB (s.drop i) 1 160 191 = q4
  generalize inB (s.drop i) 1 128 159 = q5
  generalize inB (s.drop i) 1 144 191 = q6
  generalize inB (s.drop i) 1 128 143 = q7
  rcases step_cases b with h | h | h | h | h | h | h | h | h | h
  · simp only [show ((b : Int) < 128) = True from eq_true (by omega), show ((b : Int) ≥ 194) = False from eq_false (by omega), show ((b : Int) ≤ 223) = True from eq_true (by omega), show ((b : Int) = 224) = False from eq_false (by omega), show ((b : Int) = 237) = False from eq_false (by omega), show ((b : Int) ≥ 225) = False from eq_false (by omega), show ((b : Int) ≤ 239) = True from eq_true (by omega), show ((b : Int) ≠ 237) = True from eq_true (by omega), show ((b : Int) = 240) = False from eq_false (by omega), show ((b : Int) ≥ 241) = False from eq_false (by omega), show ((b : Int) ≤ 243) = True from eq_true (by omega), show ((b : Int) = 244) = False from eq_false (by omega), show (b < 128) = True from eq_true (by omega), show (194 ≤ b ∧ b ≤ 223) = False from eq_false (by omega), show (b = 224) = False from eq_false (by omega), show (b = 237) = False from eq_false (by omega), show (225 ≤ b ∧ b ≤ 239) = False from eq_false (by omega), show (b = 240) = False from eq_false (by omega), show (241 ≤ b ∧ b ≤ 243) = False from eq_false (by omega), show (b = 244) = False from eq_false (by omega), if_true, if_false, ite_self, Bool.false_eq_true]
    try (cases q1 <;> cases q2 <;> cases q3 <;> cases q4 <;> cases q5 <;> cases q6 <;> cases q7 <;> rfl)
  · simp only [show ((b : Int) < 128) = False from eq_false (by omega), show ((b : Int) ≥ 194) = True from eq_true (by omega), show ((b : Int) ≤ 223) = True from eq_true (by omega), show ((b : Int) = 224) = False from eq_false (by omega), show ((b : Int) = 237) = False from eq_false (by omega), show ((b : Int) ≥ 225) = False from eq_false (by omega), show ((b : Int) ≤ 239) = True from eq_true (by omega), show ((b : Int) ≠ 237) = True from eq_true (by omega), show ((b : Int) = 240) = False from eq_false (by omega), show ((b : Int) ≥ 241) = False from eq_false (by omega), show ((b : Int) ≤ 243) = True from eq_true (by omega), show ((b : Int) = 244) = False from eq_false (by omega), show (b < 128) = False from eq_false (by omega), show (194 ≤ b ∧ b ≤ 223) = True from eq_true (by omega), show (b = 224) = False from eq_false (by omega), show (b = 237) = False from eq_false (by omega), show (225 ≤ b ∧ b ≤ 239) = False from eq_false (by omega), show (b = 240) = False from eq_false (by omega), show (241 ≤ b ∧ b ≤ 243) = False from eq_false (by omega), show (b = 244) = False from eq_false (by omega), if_true, if_false, ite_self, Bool.false_eq_true]
    try (cases q1 <;> cases q2 <;> cases q3 <;> cases q4 <;> cases q5 <;> cases q6 <;> cases q7 <;> rfl)
  · simp only [show ((b : Int) < 128) = False from eq_false (by omega), show ((b : Int) ≥ 194) = True from eq_true (by omega), show ((b : Int) ≤ 223) = False from eq_false (by omega), show ((b : Int) = 224) = True from eq_true (by omega), show ((b : Int) = 237) = False from eq_false (by omega), show ((b : Int) ≥ 225) = False from eq_false (by omega), show ((b : Int) ≤ 239) = True from eq_true (by omega), show ((b : Int) ≠ 237) = True from eq_true (by omega), show ((b : Int) = 240) = False from eq_false (by omega), show ((b : Int) ≥ 241) = False from eq_false (by omega), show ((b : Int) ≤ 243) = True from eq_true (by omega), show ((b : Int) = 244) = False from eq_false (by omega), show (b < 128) = False from eq_false (by omega), show (194 ≤ b ∧ b ≤ 223) = False from eq_false (by omega), show (b = 224) = True from eq_true (by omega), show (b = 237) = False from eq_false (by omega), show (225 ≤ b ∧ b ≤ 239) = False from eq_false (by omega), show (b = 240) = False from eq_false (by omega), show (241 ≤ b ∧ b ≤ 243) = False from eq_false (by omega), show (b = 244) = False from eq_false (by omega), if_true, if_false, ite_self, Bool.false_eq_true]
    try (cases q1 <;> cases q2 <;> cases q3 <;> cases q4 <;> cases q5 <;> cases q6 <;> cases q7 <;> rfl)
  · simp only [show ((b : Int) < 128) = False from eq_false (by omega), show ((b : Int) ≥ 194) = True from eq_true (by omega), show ((b : Int) ≤ 223) = False from eq_false (by omega), show ((b : Int) = 224) = False from eq_false (by omega), show ((b : Int) = 237) = True from eq_true (by omega), show ((b : Int) ≥ 225) = True from eq_true (by omega), show ((b : Int) ≤ 239) = True from eq_true (by omega), show ((b : Int) ≠ 237) = False from eq_false (by omega), show ((b : Int) = 240) = False from eq_false (by omega), show ((b : Int) ≥ 241) = False from eq_false (by omega), show ((b : Int) ≤ 243) = True from eq_true (by omega), show ((b : Int) = 244) = False from eq_false (by omega), show (b < 128) = False from eq_false (by omega), show (194 ≤ b ∧ b ≤ 223) = False from eq_false (by omega), show (b = 224) = False from eq_false (by omega), show (b = 237) = True from eq_true (by omega), show (225 ≤ b ∧ b ≤ 239) = True from eq_true (by omega), show (b = 240) = False from eq_false (by omega), show (241 ≤ b ∧ b ≤ 243) = False from eq_false (by omega), show (b = 244) = False from eq_false (by omega), if_true, if_false, ite_self, Bool.false_eq_true]
    try (cases q1 <;> cases q2 <;> cases q3 <;> cases q4 <;> cases q5 <;> cases q6 <;> cases q7 <;> rfl)
  · simp only [show ((b : Int) < 128) = False from eq_false (by omega), show ((b : Int) ≥ 194) = True from eq_true (by omega), show ((b : Int) ≤ 223) = False from eq_false (by omega), show ((b : Int) = 224) = False from eq_false (by omega), show ((b : Int) = 237) = False from eq_false (by omega), show ((b : Int) ≥ 225) = True from eq_true (by omega), show ((b : Int) ≤ 239) = True from eq_true (by omega), show ((b : Int) ≠ 237) = True from eq_true (by omega), show ((b : Int) = 240) = False from eq_false (by omega), show ((b : Int) ≥ 241) = False from eq_false (by omega), show ((b : Int) ≤ 243) = True from eq_true (by omega), show ((b : Int) = 244) = False from eq_false (by omega), show (b < 128) = False from eq_false (by omega), show (194 ≤ b ∧ b ≤ 223) = False from eq_false (by omega), show (b = 224) = False from eq_false (by omega), show (b = 237) = False from eq_false (by omega), show (225 ≤ b ∧ b ≤ 239) = True from eq_true (by omega), show (b = 240) = False from eq_false (by omega), show (241 ≤ b ∧ b ≤ 243) = False from eq_false (by omega), show (b = 244) = False from eq_false (by omega), if_true, if_false, ite_self, Bool.false_eq_true]
    try (cases q1 <;> cases q2 <;> cases q3 <;> cases q4 <;> cases q5 <;> cases q6 <;> cases q7 <;> rfl)
  · simp only [show ((b : Int) < 128) = False from eq_false (by omega), show ((b : Int) ≥ 194) = True from eq_true (by omega), show ((b : Int) ≤ 223) = False from eq_false (by omega), show ((b : Int) = 224) = False from eq_false (by omega), show ((b : Int) = 237) = False from eq_false (by omega), show ((b : Int) ≥ 225) = True from eq_true (by omega), show ((b : Int) ≤ 239) = False from eq_false (by omega), show ((b : Int) ≠ 237) = True from eq_true (by omega), show ((b : Int) = 240) = True from eq_true (by omega), show ((b : Int) ≥ 241) = False from eq_false (by omega), show ((b : Int) ≤ 243) = True from eq_true (by omega), show ((b : Int) = 244) = False from eq_false (by omega), show (b < 128) = False from eq_false (by omega), show (194 ≤ b ∧ b ≤ 223) = False from eq_false (by omega), show (b = 224) = False from eq_false (by omega), show (b = 237) = False from eq_false (by omega), show (225 ≤ b ∧ b ≤ 239) = False from eq_false (by omega), show (b = 240) = True from eq_true (by omega), show (241 ≤ b ∧ b ≤ 243) = False from eq_false (by omega), show (b = 244) = False from eq_false (by omega), if_true, if_false, ite_self, Bool.false_eq_true]
    try (cases q1 <;> cases q2 <;> cases q3 <;> cases q4 <;> cases q5 <;> cases q6 <;> cases q7 <;> rfl)
  · simp only [show ((b : Int) < 128) = False from eq_false (by omega), show ((b : Int) ≥ 194) = True from eq_true (by omega), show ((b : Int) ≤ 223) = False from eq_false (by omega), show ((b : Int) = 224) = False from eq_false (by omega), show ((b : Int) = 237) = False from eq_false (by omega), show ((b : Int) ≥ 225) = True from eq_true (by omega), show ((b : Int) ≤ 239) = False from eq_false (by omega), show ((b : Int) ≠ 237) = True from eq_true (by omega), show ((b : Int) = 240) = False from eq_false (by omega), show ((b : Int) ≥ 241) = True from eq_true (by omega), show ((b : Int) ≤ 243) = True from eq_true (by omega), show ((b : Int) = 244) = False from eq_false (by omega), show (b < 128) = False from eq_false (by omega), show (194 ≤ b ∧ b ≤ 223) = False from eq_false (by omega), show (b = 224) = False from eq_false (by omega), show (b = 237) = False from eq_false (by omega), show (225 ≤ b ∧ b ≤ 239) = False from eq_false (by omega), show (b = 240) = False from eq_false (by omega), show (241 ≤ b ∧ b ≤ 243) = True from eq_true (by omega), show (b = 244) = False from eq_false (by omega), if_true, if_false, ite_self, Bool.false_eq_true]
    try (cases q1 <;> cases q2 <;> cases q3 <;> cases q4 <;> cases q5 <;> cases q6 <;> cases q7 <;> rfl)
  · simp only [show ((b : Int) < 128) = False from eq_false (by omega), show ((b : Int) ≥ 194) = True from eq_true (by omega), show ((b : Int) ≤ 223) = False from eq_false (by omega), show ((b : Int) = 224) = False from eq_false (by omega), show ((b : Int) = 237) = False from eq_false (by omega), show ((b : Int) ≥ 225) = True from eq_true (by omega), show ((b : Int) ≤ 239) = False from eq_false (by omega), show ((b : Int) ≠ 237) = True from eq_true (by omega), show ((b : Int) = 240) = False from eq_false (by omega), show ((b : Int) ≥ 241) = True from eq_true (by omega), show ((b : Int) ≤ 243) = False from eq_false (by omega), show ((b : Int) = 244) = True from eq_true (by omega), show (b < 128) = False from eq_false (by omega), show (194 ≤ b ∧ b ≤ 223) = False from eq_false (by omega), show (b = 224) = False from eq_false (by omega), show (b = 237) = False from eq_false (by omega), show (225 ≤ b ∧ b ≤ 239) = False from eq_false (by omega), show (b = 240) = False from eq_false (by omega), show (241 ≤ b ∧ b ≤ 243) = False from eq_false (by omega), show (b = 244) = True from eq_true (by omega), if_true, if_false, ite_self, Bool.false_eq_true]
    try (cases q1 <;> cases q2 <;> cases q3 <;> cases q4 <;> cases q5 <;> cases q6 <;> cases q7 <;> rfl)
  · simp only [show ((b : Int) < 128) = False from eq_false (by omega), show ((b : Int) ≥ 194) = False from eq_false (by omega), show ((b : Int) ≤ 223) = True from eq_true (by omega), show ((b : Int) = 224) = False from eq_false (by omega), show ((b : Int) = 237) = False from eq_false (by omega), show ((b : Int) ≥ 225) = False from eq_false (by omega), show ((b : Int) ≤ 239) = True from eq_true (by omega), show ((b : Int) ≠ 237) = True from eq_true (by omega), show ((b : Int) = 240) = False from eq_false (by omega), show ((b : Int) ≥ 241) = False from eq_false (by omega), show ((b : Int) ≤ 243) = True from eq_true (by omega), show ((b : Int) = 244) = False from eq_false (by omega), show (b < 128) = False from eq_false (by omega), show (194 ≤ b ∧ b ≤ 223) = False from eq_false (by omega), show (b = 224) = False from eq_false (by omega), show (b = 237) = False from eq_false (by omega), show (225 ≤ b ∧ b ≤ 239) = False from eq_false (by omega), show (b = 240) = False from eq_false (by omega), show (241 ≤ b ∧ b ≤ 243) = False from eq_false (by omega), show (b = 244) = False from eq_false (by omega), if_true, if_false, ite_self, Bool.false_eq_true]
    try (cases q1 <;> cases q2 <;> cases q3 <;> cases q4 <;> cases q5 <;> cases q6 <;> cases q7 <;> rfl)
  · simp only [show ((b : Int) < 128) = False from eq_false (by omega), show ((b : Int) ≥ 194) = True from eq_true (by omega), show ((b : Int) ≤ 223) = False from eq_false (by omega), show ((b : Int) = 224) = False from eq_false (by omega), show ((b : Int) = 237) = False from eq_false (by omega), show ((b : Int) ≥ 225) = True from eq_true (by omega), show ((b : Int) ≤ 239) = False from eq_false (by omega), show ((b : Int) ≠ 237) = True from eq_true (by omega), show ((b : Int) = 240) = False from eq_false (by omega), show ((b : Int) ≥ 241) = True from eq_true (by omega), show ((b : Int) ≤ 243) = False from eq_false (by omega), show ((b : Int) = 244) = False from eq_false (by omega), show (b < 128) = False from eq_false (by omega), show (194 ≤ b ∧ b ≤ 223) = False from eq_false (by omega), show (b = 224) = False from eq_false (by omega), show (b = 237) = False from eq_false (by omega), show (225 ≤ b ∧ b ≤ 239) = False from eq_false (by omega), show (b = 240) = False from eq_false (by omega), show (241 ≤ b ∧ b ≤ 243) = False from eq_false (by omega), show (b = 244) = False from eq_false (by omega), if_true, if_false, ite_self, Bool.false_eq_true]
    try (cases q1 <;> cases q2 <;> cases q3 <;> cases q4 <;> cases q5 <;> cases q6 <;> cases q7 <;> rfl)

end
end Go.Av
namespace Go.Av
noncomputable section
open Go.Proofs
set_option maxRecDepth 100000
theorem cpN_le (s : List UInt8) : cpN s ≤ 4 := by
  unfold cpN
  split
  · omega
  · repeat' split
    all_goals omega
theorem utf8_L0 (N : Nat) (s : List UInt8) (hb : s.length < 4611686018427387000) : ∀ (n i : Nat), s.length - i < n → i ≤ s.length + 4 → F_polyglotref16_utf8_L0 N s n (i : Int) = some (validF (s.drop i))
  | 0, i, h, _ => by omega
  | n + 1, i, h, hi => by
    simp only [F_polyglotref16_utf8_L0, cond_eq, lss_t, eql_t]
    by_cases h1 : i < s.length
    · rw [if_pos (by omega), step_eq N s i (by omega) h1]
      simp only [Option.bind_some]
      have h4 := cpN_le (s.drop i)
      have hne : s.drop i ≠ [] := by
        intro e
        have := congrArg List.length e
        rw [List.length_drop] at this
        simp at this; omega
      cases hc : cpN (s.drop i) with
      | zero =>
        rw [if_pos (by rfl), valid_bad _ hne hc]
      | succ k =>
        rw [if_neg (by omega), wrap64 _ (by omega), valid_step _ k hc, List.drop_drop]
        have := utf8_L0 N s hb n (i + (k + 1)) (by omega) (by omega)
        rw [show ((i : Int) + ((k + 1 : Nat) : Int)) = ((i + (k + 1) : Nat) : Int) by push_cast; rfl]
        exact this
    · rw [if_neg (by omega), List.drop_of_length_le (by omega)]; rfl
theorem utf8_eq (N : Nat) (s : List UInt8) (hb : s.length < 4611686018427387000) (h : s.length < N) : F_polyglotref16_utf8 N s = some (validF s) := by
  have := utf8_L0 N s hb N 0 (by omega) (by omega)
  unfold F_polyglotref16_utf8
  simpa using this
theorem ascii_L0 (N : Nat) (s : List UInt8) (hb : s.length < 4611686018427387000) : ∀ (n i : Nat), s.length - i < n → i ≤ s.length → F_polyglotref16_ascii_L0 N s n (i : Int) = some (asciiF (s.drop i))
  | 0, i, h, _ => by omega
  | n + 1, i, h, hi => by
    simp only [F_polyglotref16_ascii_L0, cond_eq, lss_t, geq_t, idx_nat]
    by_cases h1 : i < s.length
    · rw [if_pos (by omega), List.getElem?_eq_getElem h1]
      simp only [Option.bind_some]
      by_cases h2 : s[i].toNat < 128
      · rw [if_neg (by omega), wrap64 _ (by omega), asciiF_drop _ _ h1 h2]
        exact_mod_cast ascii_L0 N s hb n (i + 1) (by omega) (by omega)
      · rw [if_pos (by omega)]
        have : asciiF (s.drop i) = false := by
          rw [List.drop_eq_getElem_cons h1]
          simp only [asciiF, List.all_cons, decide_eq_false h2, Bool.false_and]
        rw [this]
    · rw [if_neg (by omega), List.drop_of_length_le (by omega)]; rfl
theorem ascii_eq (N : Nat) (s : List UInt8) (hb : s.length < 4611686018427387000) (h : s.length < N) : F_polyglotref16_ascii N s = some (asciiF s) := by
  have := ascii_L0 N s hb N 0 (by omega) (by omega)
  unfold F_polyglotref16_ascii
  simpa using this
theorem signed_eq (N : Nat) (n b : Int) (hn : okU n) (hb : b = 8 ∨ b = 16 ∨ b = 32) : F_polyglotref16_signed N n b = some (fitsS n b true) := by
  obtain ⟨h0, h1⟩ := hn
  unfold F_polyglotref16_signed fitsS s64
  simp only [cond_eq, lss_t]
  rcases hb with rfl | rfl | rfl
  · rw [if_pos (by decide), show shlI .u64 1 (IntKind.u64.wrap (8 - 1)) = 128 by decide, show IntKind.u64.wrap (0 - 128) = 18446744073709551488 by decide]
    simp only [if_true, cmpI]
    split
    · rename_i h; rw [decide_eq_true]; simp; split <;> omega
    · rename_i h; rw [Option.some.injEq, decide_eq_decide]; simp; split <;> omega
  · rw [if_pos (by decide), show shlI .u64 1 (IntKind.u64.wrap (16 - 1)) = 32768 by decide, show IntKind.u64.wrap (0 - 32768) = 18446744073709518848 by decide]
    simp only [if_true, cmpI]
    split
    · rename_i h; rw [decide_eq_true]; simp; split <;> omega
    · rename_i h; rw [Option.some.injEq, decide_eq_decide]; simp; split <;> omega
  · rw [if_pos (by decide), show shlI .u64 1 (IntKind.u64.wrap (32 - 1)) = 2147483648 by decide, show IntKind.u64.wrap (0 - 2147483648) = 18446744071562067968 by decide]
    simp only [if_true, cmpI]
    split
    · rename_i h; rw [decide_eq_true]; simp; split <;> omega
    · rename_i h; rw [Option.some.injEq, decide_eq_decide]; simp; split <;> omega
theorem kinds {k : Int} (h : 1 ≤ k ∧ k ≤ 21) : k = 1 ∨ k = 2 ∨ k = 3 ∨ k = 4 ∨ k = 5 ∨ k = 6 ∨ k = 7 ∨ k = 8 ∨ k = 9 ∨ k = 10 ∨ k = 11 ∨ k = 12 ∨ k = 13 ∨ k = 14 ∨ k = 15 ∨ k = 16 ∨ k = 17 ∨ k = 18 ∨ k = 19 ∨ k = 20 ∨ k = 21 := by omega
theorem rZ (n : Int) (h : okU n) : (some (cmpI .eql n 0) : Option Bool) = some (fitsS n 0 false) := by
  have := h.1
  simp only [fitsS, Option.some.injEq, cmpI, Bool.false_eq_true, if_false]
  rw [Bool.eq_iff_iff]
  simp; omega
theorem rU (n b B : Int) (hb : IntKind.u64.wrap b = b) (h0 : 0 ≤ b) (hB : shlI .u64 1 b = B) (h2 : B = 2 ^ b.toNat) : (if decide (0 ≤ IntKind.u64.wrap b) = true then some (cmpI .lss n (shlI .u64 1 (IntKind.u64.wrap b))) else none) = some (fitsS n b false) := by
  rw [hb, if_pos (by simpa using h0), hB, h2]
  simp [fitsS, cmpI]
theorem r64 (n : Int) (h : okU n) : (some true : Option Bool) = some (fitsS n 64 false) := by
  have := h.2
  simp only [fitsS, Bool.false_eq_true, if_false]
  rw [decide_eq_true]; simpa using this
theorem r64s (n : Int) (h : okU n) : (some true : Option Bool) = some (fitsS n 64 true) := by
  have h1 := h.1
  have h2 := h.2
  unfold fitsS s64
  simp only [if_true]
  rw [decide_eq_true]
  simp
  split <;> omega
theorem ranged_eq (N : Nat) (v : SValue) (hn : okU v.N') (hk : 1 ≤ v.Kind ∧ v.Kind ≤ 21) : F_polyglotref16_ranged N v = some (okNum v.Kind v.N') := by
  obtain ⟨k, n, t, is⟩ := v
  simp only at hn hk
  have z := rZ n hn
  have u8 := rU n 8 256 (by decide) (by decide) (by decide) (by decide)
  have u1 := rU n 1 2 (by decide) (by decide) (by decide) (by decide)
  have u16 := rU n 16 65536 (by decide) (by decide) (by decide) (by decide)
  have u32 := rU n 32 4294967296 (by decide) (by decide) (by decide) (by decide)
  have u64 := r64 n hn
  have s64' := r64s n hn
  have s8 := signed_eq N n 8 hn (by simp)
  have s16 := signed_eq N n 16 hn (by simp)
  have s32 := signed_eq N n 32 hn (by simp)
  have w8 : IntKind.u64.wrap (IntKind.i64.wrap (0 - -8)) = 8 := by decide
  have w16 : IntKind.u64.wrap (IntKind.i64.wrap (0 - -16)) = 16 := by decide
  have w32 : IntKind.u64.wrap (IntKind.i64.wrap (0 - -32)) = 32 := by decide
  have tr : ∀ b : Bool, (b && true) = b := by decide
  simp only [F_polyglotref16_ranged, okNum]
  rcases kinds hk with rfl | rfl | rfl | rfl | rfl | rfl | rfl | rfl | rfl | rfl | rfl | rfl | rfl | rfl | rfl | rfl | rfl | rfl | rfl | rfl | rfl
  · show _ = some (_ && true); rw [tr]; exact z
  · show _ = some (_ && true); rw [tr]; simp only [show F_polyglotref16_bits N 2 = some 1 from rfl, Option.bind_some, cond_eq]; exact u1
  · show _ = some (_ && true); rw [tr]; simp only [show F_polyglotref16_bits N 3 = some 8 from rfl, Option.bind_some, cond_eq]; exact u8
  · show _ = some (_ && true); rw [tr]; simp only [show F_polyglotref16_bits N 4 = some 16 from rfl, Option.bind_some, cond_eq]; exact u16
  · show _ = some (_ && true); rw [tr]; simp only [show F_polyglotref16_bits N 5 = some 32 from rfl, Option.bind_some, cond_eq]; exact u32
  · show _ = some (_ && true); rw [tr]; exact u64
  · show _ = some (_ && true); rw [tr]
    simp only [show F_polyglotref16_bits N 7 = some (-8) from rfl, Option.bind_some, cond_eq, w8, s8]; rfl
  · show _ = some (_ && true); rw [tr]
    simp only [show F_polyglotref16_bits N 8 = some (-16) from rfl, Option.bind_some, cond_eq, w16, s16]; rfl
  · show _ = some (_ && true); rw [tr]
    simp only [show F_polyglotref16_bits N 9 = some (-32) from rfl, Option.bind_some, cond_eq, w32, s32]; rfl
  · show _ = some (_ && true); rw [tr]; exact s64'
  · show _ = some (_ && true); rw [tr]; simp only [show F_polyglotref16_bits N 11 = some 32 from rfl, Option.bind_some, cond_eq]; exact u32
  · show _ = some (_ && true); rw [tr]; exact u64
  · show _ = some (_ && true); rw [tr]; simp only [show F_polyglotref16_bits N 13 = some 32 from rfl, Option.bind_some, cond_eq]; exact u32
  · show _ = some (_ && true); rw [tr]; exact u64
  · show _ = some (_ && true); rw [tr]; exact z
  · show _ = some (_ && charS n)
    have e : F_polyglotref16_char N n = some (charS n) := by
      unfold F_polyglotref16_char charS
      simp only [cond_eq, leq_t, lss_t]
      split
      · split
        · rw [decide_eq_true (by omega)]
        · simp only [cmpI, Option.some.injEq, decide_eq_decide]; omega
      · rw [decide_eq_false (by omega)]
    simp only [show F_polyglotref16_bits N 16 = some 32 from rfl, Option.bind_some, e]
    show some (charS n) = _
    have h0 := hn.1
    cases hc : charS n with
    | false => rw [Bool.and_false]
    | true =>
      rw [Bool.and_true]
      unfold charS at hc
      simp only [decide_eq_true_eq] at hc
      simp only [show bitsS 16 = (32, false) from rfl, fitsS, Bool.false_eq_true, if_false]
      rw [decide_eq_true]
      simp; omega
  · show _ = some (_ && true); rw [tr]; exact s64'
  · show _ = some (_ && true); rw [tr]; exact z
  · show _ = some (_ && true); rw [tr]; exact z
  · show _ = some (_ && true); rw [tr]; exact z
  · show _ = some (_ && true); rw [tr]; exact z
theorem texts_eq (N : Nat) (k : Int) (h : k ≤ 21) : F_polyglotref16_texts N k = some (textS k) := by
  unfold F_polyglotref16_texts textS
  simp only [cond_eq, eql_t, geq_t]
  split
  · rename_i h1; simp [h1]
  split
  · simp only [cmpI, Option.some.injEq, decide_eq_decide]; omega
  · rw [decide_eq_false (by omega)]
theorem rows_gt (v : SValue) : (((SValue.rows v.Items).length : Int) > 0) = (v.Items ≠ []) := by
  rw [rowsV_len]
  apply propext
  cases v.Items <;> simp
theorem refCheck_eq (N : Nat) (v : SValue) (hn : okU v.N') (h : v.Text.length < N) (hb : v.Text.length < 4611686018427387000) : F_polyglotref16_Check N v = some (checkS v) := by
  simp only [F_polyglotref16_Check, cond_eq, eql_t, lss_t, gtr_t, neq_t, cmpS_neq, utf8_eq N v.Text hb h, ascii_eq N v.Text hb h, rows_gt, Option.bind_some]
  have e3 : ((v.Text.length : Int) ≠ 16) = (v.Text.length ≠ 16) := by apply propext; omega
  have e4 : ((1048576 : Int) < v.Text.length) = (1048576 < v.Text.length) := by apply propext; omega
  have e4' : ((v.Text.length : Int) > 1048576) = (1048576 < v.Text.length) := by apply propext; omega
  simp only [e3, e4, gt_iff_lt]
  unfold checkS
  by_cases h1 : v.Kind < 1
  · rw [if_pos (show v.Kind < 1 ∨ 21 < v.Kind from .inl h1), if_neg (show ¬ v.Kind = 15 by omega), if_pos h1]
  by_cases h2 : 21 < v.Kind
  · rw [if_pos (show v.Kind < 1 ∨ 21 < v.Kind from .inr h2), if_neg (show ¬ v.Kind = 15 by omega), if_neg h1, if_pos h2]
  rw [if_neg (show ¬ (v.Kind < 1 ∨ 21 < v.Kind) by omega)]
  simp only [h1, h2, if_false, ranged_eq N v hn (show 1 ≤ v.Kind ∧ v.Kind ≤ 21 by omega), texts_eq N v.Kind (show v.Kind ≤ 21 by omega), Option.bind_some]
  cases ho : okNum v.Kind v.N' with
  | false => simp
  | true =>
    simp only [Bool.not_true, Bool.false_eq_true, if_false, Bool.true_eq_false, false_or]
    by_cases hi : v.Items = []
    · simp only [hi, ne_eq, not_true_eq_false, if_false]
      by_cases h15 : v.Kind = 15
      · have ht : textS 15 = true := rfl
        simp only [ht, h15, if_true, Bool.not_true, Bool.false_eq_true, if_false, Bool.true_eq_false, true_or, true_and, show ¬ ((15 : Int) = 20) by decide, show ¬ ((15 : Int) = 21) by decide, textE]
        by_cases hl : v.Text.length = 16 <;> simp [hl]
      · by_cases h18 : v.Kind = 18
        · have ht : textS 18 = true := rfl
          simp only [ht, h18, if_true, Bool.not_true, Bool.false_eq_true, if_false, Bool.true_eq_false, or_true, true_and, show ¬ ((18 : Int) = 20) by decide, show ¬ ((18 : Int) = 21) by decide, show ¬ ((18 : Int) = 15) by decide, textE]
          by_cases hl : v.Text.length = 16 <;> simp [hl]
        · by_cases h20 : v.Kind = 20
          · have ht : textS 20 = true := rfl
            simp only [ht, h20, if_true, Bool.not_true, Bool.false_eq_true, if_false, Bool.true_eq_false, show ¬ ((20 : Int) = 18) by decide, show ¬ ((20 : Int) = 21) by decide, show ¬ ((20 : Int) = 15) by decide, textE, or_self, false_and]
            cases validF v.Text <;> split <;> simp_all
          · by_cases h21 : v.Kind = 21
            · have ht : textS 21 = true := rfl
              simp only [ht, h21, if_true, Bool.not_true, Bool.false_eq_true, if_false, Bool.true_eq_false, show ¬ ((21 : Int) = 18) by decide, show ¬ ((21 : Int) = 20) by decide, show ¬ ((21 : Int) = 15) by decide, textE, or_self, false_and]
              cases asciiF v.Text <;> split <;> simp_all
            · simp only [h15, h18, h20, h21, if_false, or_self, false_and, textE]
              cases ht : textS v.Kind with
              | false =>
                simp only [Bool.not_false, if_true]
                by_cases htt : v.Text = [] <;> simp [htt]
              | true =>
                simp only [Bool.not_true, Bool.false_eq_true, if_false, Bool.true_eq_false]
                split <;> rfl
    · simp [hi]
end
end Go.Av
namespace Go.Av
noncomputable section
open Go.Proofs
set_option maxRecDepth 100000
/-! the narrow constructors -/
def narrowB (k : Nat) : Bool := (tabAt k).2.2.2.2 || (tabAt k).2.2.2.1 || !decide ((tabAt k).2.2.1 = 1) || decide (((tabAt k).1 = 80 ∧ (tabAt k).2.1 = 3) ∨ ((tabAt k).1 = 81 ∧ (tabAt k).2.1 = 7) ∨ ((tabAt k).1 = 82 ∧ (tabAt k).2.1 = 5) ∨ ((tabAt k).1 = 83 ∧ (tabAt k).2.1 = 6) ∨ ((tabAt k).1 = 84 ∧ (tabAt k).2.1 = 9) ∨ ((tabAt k).1 = 85 ∧ (tabAt k).2.1 = 10) ∨ ((tabAt k).1 = 86 ∧ (tabAt k).2.1 = 2))
theorem narrow_all : ((List.range 40).all narrowB) = true := by decide +kernel
def k17B (k : Nat) : Bool := decide ((tabAt k).2.1 = 17 → (tabAt k).2.2.1 = 8)
theorem k17_all : ((List.range 40).all k17B) = true := by decide +kernel
theorem row_of {P : Int × Int × Int × Bool × Bool → Prop} {B : Nat → Bool} (hB : ((List.range 40).all B) = true) (hP : ∀ k, B k = true → P (tabAt k)) {code : Int} (h : ofB code = true) : P (ofT code) := by
  have h1 : bsI code < 40 ∧ codeAt (bsI code) = code := by simpa [ofB] using h
  have := List.all_eq_true.1 hB (bsI code) (by simpa using h1.1)
  have e : ofT code = tabAt (bsI code) := by unfold ofT; rw [if_pos h]
  rw [e]; exact hP _ this
theorem narrow {code : Int} (h : ofB code = true) (hi : (ofS code).Items = false) (hs : (ofS code).Sized = false) (hw : (ofS code).Width = 1) :
    (code = 80 ∧ (ofS code).Kind = 3) ∨ (code = 81 ∧ (ofS code).Kind = 7) ∨ (code = 82 ∧ (ofS code).Kind = 5) ∨ (code = 83 ∧ (ofS code).Kind = 6) ∨ (code = 84 ∧ (ofS code).Kind = 9) ∨ (code = 85 ∧ (ofS code).Kind = 10) ∨ (code = 86 ∧ (ofS code).Kind = 2) := by
  have hc := (well code h).code
  have := row_of (P := fun t => t.2.2.2.2 = false → t.2.2.2.1 = false → t.2.2.1 = 1 → (t.1 = 80 ∧ t.2.1 = 3) ∨ (t.1 = 81 ∧ t.2.1 = 7) ∨ (t.1 = 82 ∧ t.2.1 = 5) ∨ (t.1 = 83 ∧ t.2.1 = 6) ∨ (t.1 = 84 ∧ t.2.1 = 9) ∨ (t.1 = 85 ∧ t.2.1 = 10) ∨ (t.1 = 86 ∧ t.2.1 = 2)) narrow_all (fun k hk h1 h2 h3 => by
    simp only [narrowB, h1, h2, h3, Bool.false_or, decide_true, Bool.not_true, decide_eq_true_eq] at hk
    exact hk) h
  have h2 := this hi hs hw
  have hc' : (ofT code).1 = code := hc
  rw [hc'] at h2
  exact h2
theorem time8 {code : Int} (h : ofB code = true) (hk : (ofS code).Kind = 17) : (ofS code).Width = 8 :=
  row_of (P := fun t => t.2.1 = 17 → t.2.2.1 = 8) k17_all (fun _k hk => of_decide_eq_true hk) h hk
/-- the small ones are not sized; each of its width -/
theorem o8x : ((List.range 4).all fun j => decide ((ofS (82 + (j : Int))).Sized = false ∧ (ofS (82 + (j : Int))).Width = 1)) = true := by decide +kernel
theorem code8x {code : Int} (h : code = 82 ∨ code = 83 ∨ code = 84 ∨ code = 85) : (ofS code).Sized = false ∧ (ofS code).Width = 1 := by
  have := List.all_eq_true.1 o8x (code - 82).toNat (by simp; omega)
  simp only [decide_eq_true_eq] at this
  rwa [show ((82 : Int) + ((code - 82).toNat : Nat)) = code by omega] at this
theorem refFits_eq (N : Nat) (code : Int) (v : SValue) (hn : okU v.N') (h : v.Text.length < N) (hb : v.Text.length < 4611686018427387000) (hN : 50 < N) : F_polyglotref16_Fits N code v = some (fitsC code v) := by
  simp only [F_polyglotref16_Fits, refOf_eq N code hN, Option.bind_some, cond_eq, refCheck_eq N v hn h hb, neq_t, eql_t, signed_eq N v.N' 8 hn (by simp), fitsC]
  cases hob : ofB code with
  | false => rfl
  | true =>
    simp only [Bool.not_true, Bool.false_eq_true, if_false, Bool.true_and]
    by_cases hk : (ofS code).Kind = v.Kind
    · rw [if_neg (show ¬ ((ofS code).Kind ≠ v.Kind) by simp [hk]), decide_eq_true hk, Bool.true_and]
      by_cases hc : checkS v = 0
      · rw [if_neg (show ¬ (checkS v ≠ 0) by simp [hc]), decide_eq_true hc, Bool.true_and]
        obtain ⟨c1, c2, c3, c4, c5, c6, c7⟩ := check_ok hc
        have hw := well code hob
        have hi := items_not hw (by omega)
        have hcd := hw.code
        unfold saysS
        rw [hcd]
        by_cases h65 : code = 65
        · rw [if_pos h65, if_pos h65]; rfl
        rw [if_neg h65, if_neg h65]
        cases hw.shape hi with
        | sized w hs hw' h12 hk2 hcc =>
          rw [if_neg (show ¬ (ofS code).Width = 0 by omega), hs, if_pos rfl, if_pos rfl, hw']
          have n8 : ∀ c : Int, c = 82 ∨ c = 83 ∨ c = 84 ∨ c = 85 → code ≠ c := fun c hc e => by
            subst e
            have := (code8x hc).1
            rw [hs] at this; cases this
          rw [if_neg (n8 82 (by simp)), if_neg (n8 83 (by simp)), if_neg (n8 84 (by simp)), if_neg (n8 85 (by simp))]
          rcases h12 with rfl | rfl
          · rw [if_pos (by decide)]; simp only [cmpI, Option.some.injEq, decide_eq_decide]; omega
          · rw [if_neg (by decide)]; rfl
        | wide hs hw' hk2 hcc =>
          have n8 : ∀ c : Int, c = 82 ∨ c = 83 ∨ c = 84 ∨ c = 85 → code ≠ c := fun c hc e => by
            subst e
            have := (code8x hc).2
            omega
          rw [hs, hw']
          simp only [n8 82 (by simp), n8 83 (by simp), n8 84 (by simp), n8 85 (by simp), if_false, Bool.false_eq_true, show ¬ ((16 : Int) = 0) by decide, show ¬ ((16 : Int) = 1) by decide]
        | num w hs hw' hh ht hcc hbb =>
          rw [hs, if_neg (show ¬ (false = true) by simp), if_neg (show ¬ (false = true) by simp)]
          by_cases h0 : (ofS code).Width = 0
          · rw [if_pos h0, if_pos h0]; rfl
          rw [if_neg h0, if_neg h0]
          by_cases h1 : (ofS code).Width = 1
          · rw [if_pos h1]
            have ok1 : fitsS v.N' (bitsS v.Kind).1 (bitsS v.Kind).2 = true := by
              simp only [okNum, Bool.and_eq_true] at c3; exact c3.1
            rw [← hk] at ok1
            rcases narrow hob hi hs h1 with ⟨e1, e2⟩ | ⟨e1, e2⟩ | ⟨e1, e2⟩ | ⟨e1, e2⟩ | ⟨e1, e2⟩ | ⟨e1, e2⟩ | ⟨e1, e2⟩
            · rw [e2] at ok1 ⊢
              simp only [e1, show ¬ ((80 : Int) = 82) by decide, show ¬ ((80 : Int) = 83) by decide, show ¬ ((80 : Int) = 84) by decide, show ¬ ((80 : Int) = 85) by decide, if_false]
              exact congrArg some ok1.symm
            · rw [e2] at ok1 ⊢
              simp only [e1, show ¬ ((81 : Int) = 82) by decide, show ¬ ((81 : Int) = 83) by decide, show ¬ ((81 : Int) = 84) by decide, show ¬ ((81 : Int) = 85) by decide, if_false]
              exact congrArg some ok1.symm
            · rw [e2, e1, if_pos rfl]; rfl
            · rw [e2, e1, if_neg (by decide), if_pos rfl]; rfl
            · rw [e2, e1, if_neg (by decide), if_neg (by decide), if_pos rfl]; rfl
            · rw [e2, e1, if_neg (by decide), if_neg (by decide), if_neg (by decide), if_pos rfl]; rfl
            · rw [e2] at ok1 ⊢
              simp only [e1, show ¬ ((86 : Int) = 82) by decide, show ¬ ((86 : Int) = 83) by decide, show ¬ ((86 : Int) = 84) by decide, show ¬ ((86 : Int) = 85) by decide, if_false]
              have : fitsS v.N' 8 false = true := by
                simp only [show bitsS 2 = (1, false) from rfl, fitsS, Bool.false_eq_true, if_false, decide_eq_true_eq] at ok1 ⊢
                simp at ok1 ⊢; omega
              exact congrArg some this.symm
          · rw [if_neg h1]
            have n8 : ∀ c : Int, c = 82 ∨ c = 83 ∨ c = 84 ∨ c = 85 → code ≠ c := fun c hc e => by
              subst e
              exact h1 (code8x hc).2
            rw [if_neg (n8 82 (by simp)), if_neg (n8 83 (by simp)), if_neg (n8 84 (by simp)), if_neg (n8 85 (by simp))]
      · rw [if_pos (show checkS v ≠ 0 from hc), decide_eq_false hc]; rfl
    · rw [if_pos (show (ofS code).Kind ≠ v.Kind from hk), decide_eq_false hk]; rfl
theorem Big_L0 (N w : Nat) (hw : w ≤ 8) : ∀ (k i n : Nat) (out : List UInt8), n < 18446744073709551616 → i ≤ w → w - i < k → out.length ≤ i → F_polyglotref16_Big_L0 N (w : Int) k (n : Int) out (i : Int) = some (bigB n (w - i) ++ out)
  | 0, i, n, out, _, _, h, _ => by omega
  | k + 1, i, n, out, hn, hi, hk, ho => by
    simp only [F_polyglotref16_Big_L0, cond_eq, lss_t]
    by_cases h : i < w
    · rw [if_pos (by omega), if_pos (by simp [Nat.ble_eq]; omega), wrap64 _ (by omega)]
      have e1 : shrI .u64 (n : Int) 8 = ((n / 256 : Nat) : Int) := by
        simp only [shrI]
        rw [show min (Int.toNat 8) IntKind.u64.bits = 8 from rfl, Int.fdiv_eq_ediv_of_nonneg _ (by decide)]
        push_cast; rfl
      have e2 : UInt8.ofNat (IntKind.u8.wrap (n : Int)).toNat = UInt8.ofNat (n % 256) := by
        rw [wrap8]; congr 1
      have := Big_L0 N w hw k (i + 1) (n / 256) (UInt8.ofNat (n % 256) :: out) (by omega) (by omega) (by omega) (by simp; omega)
      rw [e1, e2, show ((i : Int) + 1) = ((i + 1 : Nat) : Int) by push_cast; rfl, List.singleton_append, this]
      obtain ⟨m, hm⟩ : ∃ m, w - i = m + 1 := ⟨w - i - 1, by omega⟩
      rw [hm, show w - (i + 1) = m by omega, bigB]
      simp
    · rw [if_neg (by omega), show w - i = 0 by omega]; rfl
theorem Big_eq (N n w : Nat) (hn : n < 18446744073709551616) (hw : w ≤ 8) (hN : 10 < N) : F_polyglotref16_Big N (n : Int) (w : Int) = some (bigB n w) := by
  have := Big_L0 N w hw N 0 n [] hn (by omega) (by omega) (by simp)
  unfold F_polyglotref16_Big
  rw [show (0 : Int) = ((0 : Nat) : Int) from rfl, this]; simp
theorem refPut_eq (N : Nat) (code : Int) (v : SValue) (hn : okU v.N') (h : v.Text.length < N) (hb : v.Text.length < 4611686018427387000) (hN : 50 < N) : F_polyglotref16_Put N code v = some (putS code v) := by
  simp only [F_polyglotref16_Put, refCheck_eq N v hn h hb, refFits_eq N code v hn h hb hN, refOf_eq N code hN, Option.bind_some, cond_eq, neq_t, eql_t, putS]
  by_cases h1 : checkS v = 0
  · rw [if_neg (show ¬ (checkS v ≠ 0) by simp [h1]), if_neg (show ¬ (checkS v ≠ 0) by simp [h1])]
    cases hf : fitsC code v with
    | false => rfl
    | true =>
      obtain ⟨f1, f2, f3, f4⟩ := fitsC_t hf
      obtain ⟨c1, c2, c3, c4, c5, c6, c7⟩ := check_ok f3
      have hw := well code f1
      have hi := items_not hw (by omega)
      simp only [Bool.not_true, Bool.false_eq_true, if_false, Bool.true_eq_false]
      generalize ofS code = c at *
      unfold dataS
      cases hw.shape hi with
      | sized w hs hw' h12 hk hc =>
        rw [hs, hw', wrapLen _ (by omega), Big_eq N _ w (by omega) (by omega) (by omega)]
        simp only [if_true, Option.bind_some, Int.toNat_natCast]
        rw [if_pos (by simp [Nat.ble_eq, bigB_len]; omega)]
      | wide hs hw' hk hc => rw [hs, hw']; rfl
      | num w hs hw' hh ht hc hbb =>
        have e : v.N' = ((v.N'.toNat : Nat) : Int) := by have := hn.1; omega
        have hlt : v.N'.toNat < 18446744073709551616 := by have := hn.2; have := hn.1; omega
        rw [hs, hw', e, Big_eq N _ w hlt (by omega) (by omega)]
        simp only [Bool.false_eq_true, if_false, Option.bind_some, Int.toNat_natCast]
        rw [if_neg (by omega), if_neg (by omega)]
  · rw [if_pos (show checkS v ≠ 0 from h1), if_pos (show checkS v ≠ 0 from h1)]
theorem refLeast_L0 (N : Nat) (v : SValue) (l : List Int) (hn : okU v.N') (h : v.Text.length < N) (hb : v.Text.length < 4611686018427387000) (hN : 50 < N) (hl : l.length < 1000) : ∀ (n i : Nat), l.length - i < n → i ≤ l.length →
    F_polyglotref16_Least_L0 N v l n (i : Int) = some (orL ((l.drop i).find? (fun c => fitsC c v)))
  | 0, i, h, _ => by omega
  | n + 1, i, h1, h2 => by
    simp only [F_polyglotref16_Least_L0, cond_eq, lss_t, rowsC_length]
    by_cases hi : i < l.length
    · rw [if_pos (by omega), idx_nat, List.getElem?_eq_getElem hi]
      simp only [Option.bind_some]
      rw [refFits_eq N _ v hn h hb hN]
      simp only [Option.bind_some]
      rw [List.drop_eq_getElem_cons hi, List.find?_cons]
      cases fitsC l[i] v with
      | true => rfl
      | false =>
        simp only [Bool.false_eq_true, if_false]
        rw [wrap64 _ (by omega)]
        exact_mod_cast refLeast_L0 N v l hn h hb hN hl n (i + 1) (by omega) (by omega)
    · rw [if_neg (by omega), List.drop_of_length_le (by omega)]
      rfl
theorem refLeast_eq (N : Nat) (v : SValue) (hn : okU v.N') (h : v.Text.length < N) (hN : 50 < N) (hb : v.Text.length < 4611686018427387000) : F_polyglotref16_Least N v = some (leastS v) := by
  simp only [F_polyglotref16_Least, cond_eq, neq_t, Option.bind_some, refCheck_eq N v hn h hb, refCodes_eq N _ hN, leastS]
  have hl := codesF_len v.Kind
  split
  · rfl
  · have := refLeast_L0 N v (codesF v.Kind) hn h hb hN (by omega) N 0 (by omega) (by omega)
    simpa using this
theorem Num_L0 (N : Nat) (s : List UInt8) (hl : s.length ≤ 8) : ∀ (k i : Nat), i ≤ s.length → s.length - i < k → F_polyglotref16_Number_L0 N s k (numB (s.take i) : Nat) (i : Int) = some ((numB s : Nat) : Int)
  | 0, i, h, h2 => by omega
  | k + 1, i, h, h2 => by
    simp only [F_polyglotref16_Number_L0, cond_eq, lss_t]
    by_cases hi : i < s.length
    · rw [if_pos (by omega), idx_nat, List.getElem?_eq_getElem hi]
      simp only [Option.bind_some]
      have h3 := numB_lt (s.take i)
      have h4 : 256 ^ (s.take i).length ≤ 256 ^ 7 := Nat.pow_le_pow_right (by omega) (by rw [List.length_take]; omega)
      have h5 : (256 : Nat) ^ 7 = 72057594037927936 := rfl
      rw [oGet_step _ _ (by omega) s[i].toNat_lt, ← numB_take s i hi, wrap64 _ (by omega)]
      exact_mod_cast Num_L0 N s hl k (i + 1) (by omega) (by omega)
    · rw [if_neg (by omega), List.take_of_length_le (by omega)]
theorem Num_eq (N : Nat) (s : List UInt8) (hl : s.length ≤ 8) (hN : 10 < N) : F_polyglotref16_Number N s = some ((numB s : Nat) : Int) := by
  unfold F_polyglotref16_Number
  exact Num_L0 N s hl N 0 (by omega) (by omega)
end
end Go.Av
namespace Go.Av
noncomputable section
open Go.Proofs
set_option maxRecDepth 100000
theorem refBits_pos (N : Nat) (k : Int) (h : (bitsS k).2 = false) : ∃ b, F_polyglotref16_bits N k = some b ∧ ¬ b < 0 ∧ k ≠ 10 := by
  by_cases hk : 1 ≤ k ∧ k ≤ 21
  · rcases kinds hk with rfl | rfl | rfl | rfl | rfl | rfl | rfl | rfl | rfl | rfl | rfl | rfl | rfl | rfl | rfl | rfl | rfl | rfl | rfl | rfl | rfl <;>
      first | (exact absurd h (by decide)) | exact ⟨_, rfl, by decide, by decide⟩
  · refine ⟨0, ?_, by decide, by omega⟩
    unfold F_polyglotref16_bits
    simp only [cond_eq, eql_t]
    simp only [show ¬ k = 2 by omega, show ¬ k = 3 by omega, show ¬ k = 4 by omega, show ¬ k = 5 by omega, show ¬ k = 11 by omega, show ¬ k = 13 by omega, show ¬ k = 16 by omega, show ¬ k = 6 by omega, show ¬ k = 12 by omega, show ¬ k = 14 by omega, show ¬ k = 17 by omega, show ¬ k = 10 by omega, show ¬ k = 7 by omega, show ¬ k = 8 by omega, show ¬ k = 9 by omega, if_false]
theorem refBits_neg (N : Nat) (k : Int) (h : (bitsS k).2 = true) : (∃ b, F_polyglotref16_bits N k = some b ∧ b < 0) ∨ (∃ b, F_polyglotref16_bits N k = some b ∧ ¬ b < 0 ∧ (k = 10 ∨ k = 17)) := by
  by_cases hk : 1 ≤ k ∧ k ≤ 21
  · rcases kinds hk with rfl | rfl | rfl | rfl | rfl | rfl | rfl | rfl | rfl | rfl | rfl | rfl | rfl | rfl | rfl | rfl | rfl | rfl | rfl | rfl | rfl <;>
      first | (exact absurd h (by decide)) | exact .inl ⟨_, rfl, by decide⟩ | exact .inr ⟨_, rfl, by decide, by decide⟩
  · exfalso
    unfold bitsS at h
    simp only [show ¬ k = 2 by omega, show ¬ k = 3 by omega, show ¬ k = 4 by omega, show ¬ k = 5 by omega, show ¬ k = 11 by omega, show ¬ k = 13 by omega, show ¬ k = 16 by omega, show ¬ k = 6 by omega, show ¬ k = 12 by omega, show ¬ k = 14 by omega, show ¬ k = 17 by omega, show ¬ k = 10 by omega, show ¬ k = 7 by omega, show ¬ k = 8 by omega, show ¬ k = 9 by omega, if_false, or_self] at h
    cases h
theorem whole_s (c : SCtor) (n w : Nat) (hw : c.Width = w) (hh : w = 1 ∨ w = 2 ∨ w = 4 ∨ w = 8) (hn : n < 256 ^ w) (hs : (bitsS c.Kind).2 = true) :
    (if decide (0 ≤ (IntKind.wrap .u64 (IntKind.wrap .i64 ((IntKind.wrap .i64 (8 * (w : Int))) - 1)))) = true then (if (n : Int) ≥ shlI .u64 1 (IntKind.wrap .u64 (IntKind.wrap .i64 ((IntKind.wrap .i64 (8 * (w : Int))) - 1))) then
      some (IntKind.wrap .u64 ((IntKind.wrap .u64 ((n : Int) - (shlI .u64 1 (IntKind.wrap .u64 (IntKind.wrap .i64 ((IntKind.wrap .i64 (8 * (w : Int))) - 1)))))) - (shlI .u64 1 (IntKind.wrap .u64 (IntKind.wrap .i64 ((IntKind.wrap .i64 (8 * (w : Int))) - 1)))))) else some (n : Int)) else none) = some (widenS c n) := by
  unfold widenS
  simp only [hs, true_and, hw]
  rcases hh with rfl | rfl | rfl | rfl
  · rw [if_pos (by decide), show shlI .u64 1 (IntKind.wrap .u64 (IntKind.wrap .i64 ((IntKind.wrap .i64 (8 * ((1 : Nat) : Int))) - 1))) = 128 by decide]
    simp only [wrapU]
    simp at hn ⊢
    split <;> simp <;> omega
  · rw [if_pos (by decide), show shlI .u64 1 (IntKind.wrap .u64 (IntKind.wrap .i64 ((IntKind.wrap .i64 (8 * ((2 : Nat) : Int))) - 1))) = 32768 by decide]
    simp only [wrapU]
    simp at hn ⊢
    split <;> simp <;> omega
  · rw [if_pos (by decide), show shlI .u64 1 (IntKind.wrap .u64 (IntKind.wrap .i64 ((IntKind.wrap .i64 (8 * ((4 : Nat) : Int))) - 1))) = 2147483648 by decide]
    simp only [wrapU]
    simp at hn ⊢
    split <;> simp <;> omega
  · rw [if_pos (by decide), show shlI .u64 1 (IntKind.wrap .u64 (IntKind.wrap .i64 ((IntKind.wrap .i64 (8 * ((8 : Nat) : Int))) - 1))) = 9223372036854775808 by decide]
    simp only [wrapU]
    simp at hn ⊢
    intro; omega
theorem whole_eq (N : Nat) (c : SCtor) (n w : Nat) (hw : c.Width = w) (hh : w = 1 ∨ w = 2 ∨ w = 4 ∨ w = 8) (hn : n < 256 ^ w) (h17 : c.Kind = 17 → w = 8) : F_polyglotref16_whole N (n : Int) c.Kind (w : Int) = some (widenS c n) := by
  simp only [F_polyglotref16_whole, cond_eq, lss_t, eql_t, geq_t]
  cases hs : (bitsS c.Kind).2 with
  | false =>
    obtain ⟨b, hb, hb0, h10⟩ := refBits_pos N c.Kind hs
    rw [hb]
    simp only [Option.bind_some]
    rw [if_neg hb0, if_neg h10]
    unfold widenS
    rw [if_neg (by simp [hs])]
  | true =>
    rcases refBits_neg N c.Kind hs with ⟨b, hb, hb0⟩ | ⟨b, hb, hb0, hk⟩
    · rw [hb]
      simp only [Option.bind_some]
      rw [if_pos hb0]
      exact whole_s c n w hw hh hn hs
    · rw [hb]
      simp only [Option.bind_some]
      rw [if_neg hb0]
      rcases hk with hk | hk
      · rw [if_pos hk]
        exact whole_s c n w hw hh hn hs
      · rw [if_neg (by omega)]
        have h8 := h17 hk
        subst h8
        unfold widenS
        simp only [hs, true_and, hw]
        simp
theorem fin_if2 (k : Int) (v : SValue) (n : Int) : (if k = 2 then some ((⟨0, 0, [], []⟩ : SValue), (0 : Int), (5 : Int)) else if k ≠ 0 then some (⟨0, 0, [], []⟩, 0, k) else some (v, n, 0)) = some (if k = 0 then (v, n, 0) else (zeroV, 0, if k = 2 then 5 else k)) := by
  by_cases h2 : k = 2
  · subst h2; rfl
  · rw [if_neg h2]
    by_cases h0 : k = 0
    · rw [if_neg (show ¬ (k ≠ 0) by simp [h0]), if_pos h0]
    · rw [if_pos (show k ≠ 0 from h0), if_neg h0, if_neg h2]; rfl
theorem refGet_eq (N : Nat) (code : Int) (s : List UInt8) (hs : s.length < 4611686018427387000) (h : s.length < N) (hN : 50 < N) : F_polyglotref16_Get N code s = some (getS code s) := by
  have hck : ∀ v : SValue, okU v.N' → v.Text.length ≤ s.length → F_polyglotref16_Check N v = some (checkS v) := fun v h1 h2 => refCheck_eq N v h1 (by omega) (by omega)
  simp only [F_polyglotref16_Get, refOf_eq N code hN, Option.bind_some, cond_eq, lss_t, gtr_t, eql_t, neq_t, getS]
  cases hb : ofB code with
  | false => simp only [Bool.not_false, if_true, true_or]; rfl
  | true =>
    have hw := well code hb
    have ht8 := time8 hb
    have hcd := hw.code
    simp only [Bool.not_true, Bool.false_eq_true, if_false, Bool.true_eq_false, false_or]
    cases hi : (ofS code).Items with
    | true => rfl
    | false =>
      simp only [Bool.false_eq_true, if_false]
      rw [← hcd]
      rw [hcd]
      generalize hc0 : ofS code = c at *
      by_cases hl : (s.length : Int) < c.Width
      · rw [if_pos hl, if_pos hl]; rfl
      rw [if_neg hl, if_neg hl]
      cases hw.shape hi with
      | sized w hsz hw' h12 hk hc =>
        simp only [hsz, hw', if_true, Int.toNat_natCast]
        have hlw : w ≤ s.length := by omega
        rw [if_pos (by simp), if_pos (by simp [Nat.ble_eq]; omega), List.drop_zero, Num_eq N _ (by rw [List.length_take]; omega) (by omega)]
        simp only [Option.bind_some]
        have hlt := numB_lt (s.take w)
        have h4 : 256 ^ (s.take w).length ≤ 256 ^ 4 := Nat.pow_le_pow_right (by omega) (by rw [List.length_take]; omega)
        have h5 : (256 : Nat) ^ 4 = 4294967296 := rfl
        generalize hm : numB (s.take w) = m at *
        have e1 : IntKind.u64.wrap (IntKind.i64.wrap ((s.length : Int) - (w : Int))) = ((s.length - w : Nat) : Int) := by
          rw [wrap64 _ (by omega), show ((s.length : Int) - (w : Int)) = ((s.length - w : Nat) : Int) by omega, wrapLen _ (by omega)]
        rw [e1]
        by_cases h6 : s.length - w < m
        · rw [if_pos (by omega), if_pos h6]; rfl
        · rw [if_neg (by omega), if_neg h6]
          have e2 : IntKind.i64.wrap ((w : Int) + IntKind.i64.wrap (m : Int)) = ((w + m : Nat) : Int) := by
            rw [wrap64 (m : Int) (by omega), wrap64 _ (by omega)]; push_cast; rfl
          rw [e2]
          simp only [Int.toNat_natCast]
          rw [if_pos (by simp; omega), if_pos (by simp [Nat.ble_eq]; omega)]
          rw [show (s.take (w + m)).drop w = (s.drop w).take m by rw [List.drop_take]; congr 1; omega]
          rw [hck _ okU0 (by simp only [List.length_take, List.length_drop]; omega)]
          simp only [Option.bind_some]
          rw [fin_if2]
          unfold finS
          rw [show ((w + m : Nat) : Int) = (w : Int) + (m : Int) by push_cast; rfl]
      | wide hsz hw' hk hc =>
        simp only [hsz, hw', Bool.false_eq_true, if_false, if_true]
        rw [if_pos (by simp [Nat.ble_eq]; omega), List.drop_zero, hck _ okU0 (by simp only [List.length_take]; omega)]
        simp only [Option.bind_some]
        rw [fin_if2]
        rfl
      | num w hsz hw' hh ht hc hbb =>
        simp only [hsz, hw', Bool.false_eq_true, if_false, Int.toNat_natCast]
        rw [if_neg (show ¬ ((w : Int) = 16) by omega), if_neg (show ¬ ((w : Int) = 16) by omega)]
        by_cases h65 : code = 65
        · obtain ⟨rfl, hk2⟩ := hc (by rw [hcd]; exact h65)
          rw [if_pos h65, if_pos (show c.Code = 65 by rw [hcd]; exact h65), hck _ okU1 (by simp)]
          simp only [Option.bind_some]
          rw [fin_if2]
          rfl
        · rw [if_neg h65, if_neg (show ¬ c.Code = 65 by rw [hcd]; exact h65)]
          have hlw : w ≤ s.length := by omega
          rcases hh with rfl | hh
          · rw [if_neg (by omega), hck _ okU0 (by simp)]
            simp only [Option.bind_some]
            have e0 : widenS c (numB (s.take 0) : Nat) = 0 := by
              unfold widenS
              rw [if_neg (by omega)]; rfl
            rw [fin_if2, e0]
            rfl
          · have hlt := numB_lt (s.take w)
            rw [List.length_take, Nat.min_eq_left hlw] at hlt
            rw [if_pos (by omega), if_pos (by simp), if_pos (by simp [Nat.ble_eq]; omega), List.drop_zero, Num_eq N _ (by rw [List.length_take]; omega) (by omega)]
            simp only [Option.bind_some]
            rw [whole_eq N c _ w hw' hh hlt (fun hk => by have := ht8 hk; omega)]
            simp only [Option.bind_some]
            rw [hck _ (widen_mod hw' hh hlt).1 (by simp)]
            simp only [Option.bind_some]
            rw [fin_if2]
            rfl
end
end Go.Av
namespace Go.Av
noncomputable section
open Go.Proofs
set_option maxRecDepth 100000
theorem Own_L0 {R : SValue → Option SValue} {N : Nat} {v : SValue} (hl : v.Items.length ≤ 1000) (hR : ∀ y ∈ v.Items, R y = some y) : ∀ (n i : Nat), i ≤ v.Items.length → v.Items.length - i < n →
    B_polyglotkit_OwnValue_L0 R N v n (i : Int) (v.Items.take i) = some v
  | 0, i, _, h => by omega
  | n + 1, i, hi, hn => by
    simp only [B_polyglotkit_OwnValue_L0, cond_eq, lss_t, rowsV_len, idx_nat]
    by_cases h : i < v.Items.length
    · rw [if_pos (by omega), List.getElem?_eq_getElem h]
      simp only [Option.bind_some, hR _ (List.getElem_mem h)]
      rw [if_pos (by simp [Nat.ble_eq]; omega), wrap64 _ (by omega), ← List.take_succ_eq_append_getElem h]
      exact_mod_cast Own_L0 hl hR n (i + 1) (by omega) (by omega)
    · rw [if_neg (by omega), List.take_of_length_le (by omega)]; cases v; rfl
theorem Own_eq : ∀ (N : Nat) (v : SValue), v.sz < N → v.sz < 1000 → F_polyglotkit_OwnValue N v = some v
  | 0, v, h, _ => by omega
  | N + 1, v, h, h2 => by
    have hs := v.sz_eq
    have hl := SValue.szs_len v.Items
    have := Own_L0 (R := F_polyglotkit_OwnValue N) (N := N) (v := v) (by omega) (fun y hy => Own_eq N y (by have := SValue.szs_mem _ y hy; omega) (by have := SValue.szs_mem _ y hy; omega)) N 0 (by omega) (by omega)
    exact this
theorem Same_L0 (N : Nat) (a : List Int) (hl : a.length < 1000) : ∀ (n i : Nat), i ≤ a.length → a.length - i < n → F_polyglotkit_Same_int_L0 N a a n (i : Int) = some true
  | 0, i, _, h => by omega
  | n + 1, i, hi, hn => by
    simp only [F_polyglotkit_Same_int_L0, cond_eq, lss_t, neq_t, rowsC_length, idx_nat]
    by_cases h : i < a.length
    · rw [if_pos (by omega), List.getElem?_eq_getElem h]
      simp only [Option.bind_some]
      rw [if_neg (by simp), wrap64 _ (by omega)]
      exact_mod_cast Same_L0 N a hl n (i + 1) (by omega) (by omega)
    · rw [if_neg (by omega)]
theorem Same_refl (N : Nat) (a : List Int) (hl : a.length < 1000) (hN : a.length < N) : F_polyglotkit_Same_int N a a = some true := by
  simp only [F_polyglotkit_Same_int, cond_eq, neq_t]
  rw [if_neg (by simp)]
  exact Same_L0 N a hl N 0 (by omega) (by omega)
theorem get_sz (code : Int) (s : List UInt8) : (getS code s).1.sz = 1 := by
  have fz : ∀ (v : SValue) n, v.Items = [] → (finS v n).1.sz = 1 := fun v n h => by
    unfold finS
    split
    · rw [SValue.sz_eq, h]; rfl
    · rfl
  unfold getS
  repeat' split
  all_goals first | exact fz _ _ rfl | rfl
theorem beqC (c : SCtor) : (((c.Code : Int) == c.Code) && (((c.Kind : Int) == c.Kind) && (((c.Width : Int) == c.Width) && (((c.Sized : Bool) == c.Sized) && (((c.Items : Bool) == c.Items) && true))))) = true := by simp
theorem eqlR (x : Int) : cmpI .eql x x = true := by simp [cmpI]
theorem eqlS (x : List UInt8) : cmpS .eql x x = true := by simp [cmpS]
theorem Calls_true (N : Nat) (code : Int) (v : SValue) (kind : Int) (s : List UInt8) (hv : okU v.N') (hN : 1200 < N) : F_polyglotlaw16_AmqprimCalls N code v kind s = some true := by
  obtain ⟨b1, l1, l2⟩ := Light_spec N v (by omega)
  simp only [F_polyglotlaw16_AmqprimCalls, lives_eq N (by omega), Option.bind_some, cond_eq, Bool.not_true, Bool.false_eq_true, if_false, l1, gtr_t]
  cases b1 with
  | false => rfl
  | true =>
    obtain ⟨s1, t1⟩ := l2 rfl
    rw [SValue.txt_eq] at t1
    simp only [Bool.not_true, Bool.false_eq_true, if_false]
    by_cases hs : (s.length : Int) > 600
    · rw [if_pos hs]
    · rw [if_neg hs]
      have hcl := codesF_len kind
      have hz := get_sz code s
      simp only [F_amqprim_Of, F_amqprim_Codes, refOf_eq N code (show 50 < N by omega), Own_eq N v (by omega) (by omega), Least_eq N v hv (show v.Text.length < N by omega) (by omega) (by omega), refLeast_eq N v hv (show v.Text.length < N by omega) (by omega) (by omega),
        Put_eq N code v hv (show v.Text.length < N by omega) (by omega) (by omega), refPut_eq N code v hv (show v.Text.length < N by omega) (by omega) (by omega),
        Get_eq N code s (show sane s by unfold sane; omega) (by omega) (by omega), refGet_eq N code s (by omega) (by omega) (by omega), refCodes_eq N kind (by omega), Same_refl N (codesF kind) (by omega) (by omega),
        Check_eq N v hv (show v.Text.length < N by omega) (by omega), refCheck_eq N v hv (show v.Text.length < N by omega) (by omega), Fits_eq N code v hv (show v.Text.length < N by omega) (by omega), refFits_eq N code v hv (show v.Text.length < N by omega) (by omega) (by omega),
        SameValue_eq N (getS code s).1 (getS code s).1 (by omega) (by omega), Option.bind_some, Bool.and_self, eqlR, eqlS, beq_self_eq_true, decide_true, if_true]
end
end Go.Av
