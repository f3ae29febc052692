/- The law. Part of a proof of a given statement: for every input the law returns true and the arguments read as before; no condition beyond the given row. -/
import Derived.Test.YtgalebkdefaonaaDoorPlain
import Derived.Test.YtgalebkdefaonaaDoorLifts
namespace Go.Av
noncomputable section
open Go.Proofs
set_option maxRecDepth 100000
/-! the reference's layer 17: values -/
theorem and_shift (n m k : Nat) : n &&& (m * 2 ^ k) = ((n / 2 ^ k) &&& m) * 2 ^ k := by
 apply Nat.eq_of_testBit_eq
 intro i
 rw [Nat.testBit_and, Nat.testBit_mul_two_pow, Nat.testBit_mul_two_pow, Nat.testBit_and, Nat.testBit_div_two_pow]
 by_cases h : k ≤ i
 ·simp [h]
 ·simp [h]
theorem shr_nat (n k : Nat) (h : k ≤ 64) : shrI .u64 (n : Int) (k : Int) = ((n / 2 ^ k : Nat) : Int) := by
 have e : min (k : Int).toNat IntKind.u64.bits = k := by simp [IntKind.bits]; omega
 simp only [shrI, e]
 rw [Int.fdiv_eq_ediv_of_nonneg _ (by exact_mod_cast Nat.zero_le _)]
 push_cast; rfl
theorem expo (n e k : Nat) (hn : n < 18446744073709551616) (hk : k ≤ 63) (he : (2 ^ e - 1) * 2 ^ k < 18446744073709551616) (he2 : 2 ^ e - 1 < 18446744073709551616) :
  (andI .u64 (shrI .u64 (n : Int) (k : Int)) ((2 ^ e - 1 : Nat) : Int) = ((2 ^ e - 1 : Nat) : Int)) = (andI .u64 (n : Int) (((2 ^ e - 1) * 2 ^ k : Nat) : Int) = (((2 ^ e - 1) * 2 ^ k : Nat) : Int)) := by
 rw [shr_nat n k (by omega), andI_nat _ _ (Nat.lt_of_le_of_lt (Nat.div_le_self _ _) hn) he2, andI_nat _ _ hn he, and_shift]
 apply propext
 have hp : 0 < 2 ^ k := Nat.two_pow_pos k
 constructor
 ·intro h
  have := Int.ofNat.inj h
  rw [this]
 ·intro h
  have := Nat.eq_of_mul_eq_mul_right hp (Int.ofNat.inj h)
  rw [this]
theorem low23 (n : Nat) (hn : n < 18446744073709551616) : (andI .u64 (n : Int) 8388607 ≠ 0) = (shlI .u64 (n : Int) 41 ≠ 0) := by
 have e : shlI .u64 (n : Int) 41 = ((n : Int) * 2199023255552) % 18446744073709551616 := by
  show IntKind.u64.wrap _ = _
  rw [wrapU]; rfl
 rw [show (8388607 : Int) = ((8388607 : Nat) : Int) from rfl, andI_nat _ _ hn (by decide), e, show (8388607 : Nat) = 2 ^ 23 - 1 from rfl, Nat.and_two_pow_sub_one_eq_mod]
 apply propext; omega
theorem low52 (n : Nat) (hn : n < 18446744073709551616) : (andI .u64 (n : Int) 4503599627370495 ≠ 0) = (shlI .u64 (n : Int) 12 ≠ 0) := by
 have e : shlI .u64 (n : Int) 12 = ((n : Int) * 4096) % 18446744073709551616 := by
  show IntKind.u64.wrap _ = _
  rw [wrapU]; rfl
 rw [show (4503599627370495 : Int) = ((4503599627370495 : Nat) : Int) from rfl, andI_nat _ _ hn (by decide), e, show (4503599627370495 : Nat) = 2 ^ 52 - 1 from rfl, Nat.and_two_pow_sub_one_eq_mod]
 apply propext; omega
theorem refNone_eq (N : Nat) (v : SValue) (h : okU v.N') : Fq7none N v = some (nnS v) := by
 rw [← nn_eq 0 v]
 obtain ⟨h0, h1⟩ := h
 obtain ⟨n, hn⟩ := Int.eq_ofNat_of_zero_le h0
 rw [hn] at h1
 have h1 : n < 18446744073709551616 := by omega
 have e1 := expo n 8 23 h1 (by decide) (by decide) (by decide)
 have e2 := expo n 11 52 h1 (by decide) (by decide) (by decide)
 rw [show ((2 ^ 8 - 1 : Nat) : Int) = 255 from rfl, show (((2 ^ 8 - 1) * 2 ^ 23 : Nat) : Int) = 2139095040 from rfl, show ((23 : Nat) : Int) = 23 from rfl] at e1
 rw [show ((2 ^ 11 - 1 : Nat) : Int) = 2047 from rfl, show (((2 ^ 11 - 1) * 2 ^ 52 : Nat) : Int) = 9218868437227405312 from rfl, show ((52 : Nat) : Int) = 52 from rfl] at e2
 have l1 : cmpI .neq (andI .u64 (n : Int) 8388607) 0 = cmpI .neq (shlI .u64 (n : Int) 41) 0 := by
  rw [Bool.eq_iff_iff, neq_t, neq_t, low23 n h1]
 have l2 : cmpI .neq (andI .u64 (n : Int) 4503599627370495) 0 = cmpI .neq (shlI .u64 (n : Int) 12) 0 := by
  rw [Bool.eq_iff_iff, neq_t, neq_t, low52 n h1]
 unfold Fq7none FavnoNumber
 simp only [hn, l1, l2, cond_eq, eql_t, e1, e2]
 by_cases k1 : v.Kind = 11
 ·have k2 : ¬ v.Kind = 12 := by omega
  simp only [if_pos k1, if_neg k2]
  split
  ·split
   ·rename_i h; rw [h]
   ·rename_i h
    cases hc : cmpI .neq (shlI .u64 (n : Int) 41) 0 with
    | true => exact absurd hc h
    | false => rfl
  ·rfl
 ·simp only [if_neg k1]
theorem refAlike_L0 {R : SValue → SValue → Option Bool} {N : Nat} {a b : SValue} (hlen : a.Items.length = b.Items.length) (hb : a.Items.length < 4611686018427387904)
  (hR : ∀ y ∈ a.Items, ∀ z ∈ b.Items, R y z = some (alikeS y z)) : ∀ (n i : Nat), i ≤ a.Items.length → a.Items.length - i < n →
  Bq7alike_L0 R N a b n (i : Int) = some (alikes (a.Items.drop i) (b.Items.drop i)) ∧ Bq7alike_L1 R N a b n (i : Int) = some (alikes (a.Items.drop i) (b.Items.drop i))
 | 0, i, _, h => by omega
 | n + 1, i, h1, h2 => by
  simp only [Bq7alike_L0, Bq7alike_L1, cond_eq, lss_t, rowsV_len]
  by_cases hi : i < a.Items.length
  ·rw [if_pos (by omega), if_pos (by omega), idx_nat, idx_nat, List.getElem?_eq_getElem hi, List.getElem?_eq_getElem (show i < b.Items.length by omega)]
   simp only [Option.bind_some, hR _ (List.getElem_mem hi) _ (List.getElem_mem (show i < b.Items.length by omega))]
   rw [wrap64 _ (by omega)]
   obtain ⟨ih1, ih2⟩ := refAlike_L0 (N := N) hlen hb hR n (i + 1) (by omega) (by omega)
   rw [List.drop_eq_getElem_cons hi, List.drop_eq_getElem_cons (show i < b.Items.length by omega), alikes]
   cases alikeS a.Items[i] b.Items[i] with
   | true =>
    simp only [Bool.not_true, Bool.false_eq_true, if_false, Bool.true_and]
    exact ⟨by exact_mod_cast ih1, by exact_mod_cast ih2⟩
   | false => simp
  ·rw [if_neg (by omega), if_neg (by omega), List.drop_of_length_le (by omega)]
   simp [alikes]
theorem refAlike_eq : ∀ (N : Nat) (a b : SValue), Fine a → Fine b → a.sz < N → a.sz < 1000000 → Fq7alike N a b = some (alikeS a b)
 | 0, a, b, _, _, h, _ => by have := a.sz_eq; omega
 | N + 1, a, b, fa, fb, h, h2 => by
  have hs := a.sz_eq
  have hl := SValue.szs_len a.Items
  rw [alikeS_eq]
  simp only [Fq7alike, Bq7alike, cond_eq, neq_t, cmpS_neq, rowsV_len, refNone_eq N a fa.num, refNone_eq N b fb.num, Option.bind_some]
  by_cases e1 : a.Kind = b.Kind
  ·by_cases e3 : a.Text = b.Text
   ·by_cases e4 : a.Items.length = b.Items.length
    ·simp only [if_neg (show ¬ (a.Kind ≠ b.Kind) by simp [e1]), if_neg (show ¬ (a.Text ≠ b.Text) by simp [e3]), if_neg (show ¬ ((a.Items.length : Int) ≠ b.Items.length) by simp [e4])]
     obtain ⟨i1, i2⟩ := refAlike_L0 (N := N) (R := Fq7alike N) e4 (by omega) (fun y hy z hz => refAlike_eq N y z (fa.items y hy) (fb.items z hz) (by have := SValue.szs_mem _ y hy; omega) (by have := SValue.szs_mem _ y hy; omega)) N 0 (by omega) (by omega)
     rw [show ((0 : Nat) : Int) = 0 from rfl] at i1 i2
     rw [i1, i2, List.drop_zero, List.drop_zero]
     simp only [e1, e3, e4, decide_true, Bool.true_and]
     by_cases e2 : a.N' = b.N'
     ·simp [e2]
     ·simp only [e2, ne_eq, not_false_eq_true, if_true, decide_false, Bool.false_or]
      cases nnS a <;> cases nnS b <;> simp
    ·simp only [if_neg (show ¬ (a.Kind ≠ b.Kind) by simp [e1]), if_neg (show ¬ (a.Text ≠ b.Text) by simp [e3]), if_pos (show ((a.Items.length : Int) ≠ b.Items.length) by omega)]
     simp [e4]
     repeat' split
     all_goals rfl
   ·simp only [if_neg (show ¬ (a.Kind ≠ b.Kind) by simp [e1]), if_pos (show (a.Text ≠ b.Text) from e3)]
    simp [e3]
    repeat' split
    all_goals rfl
  ·rw [if_pos (by simpa using e1)]
   simp [e1]
end
end Go.Av
namespace Go.Av
noncomputable section
open Go.Proofs
set_option maxRecDepth 100000
theorem refSame_L0 {R : SValue → SValue → Option Bool} {N : Nat} {a b : SValue} (hlen : a.Items.length = b.Items.length) (hb : a.Items.length < 4611686018427387904)
  (hR : ∀ y ∈ a.Items, ∀ z, R y z = some (decide (y = z))) : ∀ (n i : Nat), i ≤ a.Items.length → a.Items.length - i < n →
  Bq7Same_L0 R N a b n (i : Int) = some (decide (a.Items.drop i = b.Items.drop i))
 | 0, i, _, h => by omega
 | n + 1, i, h1, h2 => by
  simp only [Bq7Same_L0, cond_eq, lss_t, rowsV_len]
  by_cases hi : i < a.Items.length
  ·rw [if_pos (by omega), idx_nat, idx_nat, List.getElem?_eq_getElem hi, List.getElem?_eq_getElem (show i < b.Items.length by omega)]
   simp only [Option.bind_some, hR _ (List.getElem_mem hi)]
   rw [wrap64 _ (by omega)]
   have ih := refSame_L0 (N := N) hlen hb hR n (i + 1) (by omega) (by omega)
   rw [List.drop_eq_getElem_cons hi, List.drop_eq_getElem_cons (show i < b.Items.length by omega)]
   by_cases he : a.Items[i] = b.Items[i]
   ·rw [← he]; simp only [decide_true, Bool.not_true, Bool.false_eq_true, if_false, List.cons.injEq, true_and]
    exact_mod_cast ih
   ·have hne : ¬ (a.Items[i] :: List.drop (i + 1) a.Items = b.Items[i] :: List.drop (i + 1) b.Items) := fun e => he (List.cons.inj e).1
    simp only [he, decide_false, Bool.not_false, if_true]
    rw [decide_eq_false hne]
  ·rw [if_neg (by omega), List.drop_of_length_le (by omega), List.drop_of_length_le (by omega)]
   simp
theorem refSame_eq : ∀ (N : Nat) (a b : SValue), a.sz < N → a.sz < 1000000 → Fq7Same N a b = some (decide (a = b))
 | 0, a, b, h, _ => by have := a.sz_eq; omega
 | N + 1, a, b, h, h2 => by
  have hs := a.sz_eq
  have hl := SValue.szs_len a.Items
  simp only [Fq7Same, Bq7Same, cond_eq, neq_t, cmpS_neq, rowsV_len]
  by_cases e1 : a.Kind = b.Kind
  ·by_cases e2 : a.N' = b.N'
   ·by_cases e3 : a.Text = b.Text
    ·by_cases e4 : a.Items.length = b.Items.length
     ·rw [if_neg (by simp [e1]), if_neg (by simp [e2]), if_neg (by simp [e3]), if_neg (by simp [e4])]
      have := refSame_L0 (N := N) (R := Fq7Same N) e4 (by omega) (fun y hy z => refSame_eq N y z (by have := SValue.szs_mem _ y hy; omega) (by have := SValue.szs_mem _ y hy; omega)) N 0 (by omega) (by omega)
      rw [show (0 : Int) = ((0 : Nat) : Int) from rfl, this]
      cases a; cases b; simp_all
     ·rw [if_neg (by simp [e1]), if_neg (by simp [e2]), if_neg (by simp [e3]), if_pos (by omega)]
      have : a ≠ b := fun e => e4 (by rw [e])
      simp [this]
    ·rw [if_neg (by simp [e1]), if_neg (by simp [e2]), if_pos (by simpa using e3)]
     have : a ≠ b := fun e => e3 (by rw [e])
     simp [this]
   ·rw [if_neg (by simp [e1]), if_pos (by simpa using e2)]
    have : a ≠ b := fun e => e2 (by rw [e])
    simp [this]
  ·rw [if_pos (by simpa using e1)]
   have : a ≠ b := fun e => e1 (by rw [e])
   simp [this]
theorem refCount_L0 {R : SValue → Option Int} {N : Nat} {v : SValue} (hb : v.sz < 1000000) (hR : ∀ y ∈ v.Items, R y = some (y.sz : Int)) : ∀ (n i : Nat), i ≤ v.Items.length → v.Items.length - i < n →
  Bq7Count_L0 R N v n (1 + SValue.szs (v.Items.take i) : Nat) (i : Int) = some (v.sz : Int)
 | 0, i, _, h => by omega
 | n + 1, i, hi, hn => by
  have hs := v.sz_eq
  have hl := SValue.szs_len v.Items
  simp only [Bq7Count_L0, cond_eq, lss_t, rowsV_len, idx_nat]
  by_cases h : i < v.Items.length
  ·rw [if_pos (by omega), List.getElem?_eq_getElem h]
   simp only [Option.bind_some, hR _ (List.getElem_mem h)]
   have e1 : SValue.szs (v.Items.take (i + 1)) = SValue.szs (v.Items.take i) + v.Items[i].sz := by
    rw [List.take_succ_eq_append_getElem h, SValue.szs_app]; simp [SValue.szs]
   have e2 : SValue.szs (v.Items.take (i + 1)) ≤ SValue.szs v.Items := by
    have := SValue.szs_app (v.Items.take (i + 1)) (v.Items.drop (i + 1))
    rw [List.take_append_drop] at this; omega
   rw [wrap64 _ (by omega), wrap64 _ (by omega)]
   have := refCount_L0 (N := N) hb hR n (i + 1) (by omega) (by omega)
   rw [e1] at this
   rw [show (((1 + SValue.szs (v.Items.take i) : Nat) : Int) + (v.Items[i].sz : Int)) = ((1 + (SValue.szs (v.Items.take i) + v.Items[i].sz) : Nat) : Int) by push_cast; omega]
   exact_mod_cast this
  ·rw [if_neg (by omega), List.take_of_length_le (by omega), v.sz_eq]
theorem refCount_eq : ∀ (N : Nat) (v : SValue), v.sz < N → v.sz < 1000000 → Fq7Count N v = some (v.sz : Int)
 | 0, v, h, _ => by omega
 | N + 1, v, h, h2 => by
  have hs := v.sz_eq
  have hl := SValue.szs_len v.Items
  have := refCount_L0 (R := Fq7Count N) (N := N) (v := v) h2 (fun y hy => refCount_eq N y (by have := SValue.szs_mem _ y hy; omega) (by have := SValue.szs_mem _ y hy; omega)) N 0 (by omega) (by omega)
  exact this
open Classical in
theorem twice_L1 {N : Nat} {v : SValue} (hf : Fine v) (hb : v.sz < 1000000) (hN : v.sz < N) {k0 : Int → Option Bool} {i : Nat} (hi : i < v.Items.length) (i2 : i % 2 = 0) : ∀ (n k : Nat), i - k < n → k % 2 = 0 → k ≤ i →
  Fq7twice_L1 N k0 v.Items (i : Int) n (k : Int) = if ∃ j, k ≤ j ∧ j < i ∧ j % 2 = 0 ∧ AL v i j then some true else k0 ((i + 2 : Nat) : Int)
 | 0, k, h, _, _ => by omega
 | n + 1, k, h, hk, hki => by
  have hs := v.sz_eq
  have hl := SValue.szs_len v.Items
  simp only [Fq7twice_L1, cond_eq, lss_t, idx_nat]
  by_cases hlt : k < i
  ·rw [if_pos (by omega), List.getElem?_eq_getElem hi, List.getElem?_eq_getElem (show k < v.Items.length by omega)]
   simp only [Option.bind_some]
   have hsz := SValue.szs_mem _ _ (List.getElem_mem hi)
   rw [refAlike_eq N _ _ (hf.items _ (List.getElem_mem hi)) (hf.items _ (List.getElem_mem (show k < v.Items.length by omega))) (by omega) (by omega)]
   simp only [Option.bind_some]
   cases hal : alikeS v.Items[i] v.Items[k] with
   | true =>
    rw [if_pos rfl, if_pos ⟨k, Nat.le_refl _, hlt, hk, _, _, List.getElem?_eq_getElem hi, List.getElem?_eq_getElem (by omega), hal⟩]
   | false =>
    rw [if_neg (by simp), wrap64 _ (by omega)]
    have := twice_L1 (k0 := k0) hf hb hN hi i2 n (k + 2) (by omega) (by omega) (by omega)
    rw [show ((k : Int) + 2) = ((k + 2 : Nat) : Int) by push_cast; rfl, this]
    by_cases hx : ∃ j, k + 2 ≤ j ∧ j < i ∧ j % 2 = 0 ∧ AL v i j
    ·rw [if_pos hx]
     obtain ⟨j, j1, j2, j3, j4⟩ := hx
     rw [if_pos ⟨j, by omega, j2, j3, j4⟩]
    ·rw [if_neg hx, if_neg]
     rintro ⟨j, j1, j2, j3, j4⟩
     by_cases hjk : j = k
     ·subst hjk
      obtain ⟨x, y, x1, y1, z1⟩ := j4
      rw [List.getElem?_eq_getElem hi] at x1
      rw [List.getElem?_eq_getElem (by omega)] at y1
      cases x1; cases y1
      rw [hal] at z1; cases z1
     ·exact hx ⟨j, by omega, j2, j3, j4⟩
  ·rw [if_neg (by omega), wrap64 _ (by omega), if_neg (by rintro ⟨j, j1, j2, _⟩; omega)]
   push_cast; rfl
open Classical in
theorem twice_L0 {N : Nat} {v : SValue} (hf : Fine v) (hb : v.sz < 1000000) (hN : v.sz < N) : ∀ (n i : Nat), v.Items.length - i < n → i % 2 = 0 → i ≤ v.Items.length + 2 →
  Fq7twice_L0 N v.Items n (i : Int) = some (if ∃ i' j, i ≤ i' ∧ i' % 2 = 0 ∧ i' < v.Items.length ∧ j < i' ∧ j % 2 = 0 ∧ AL v i' j then true else false)
 | 0, i, h, _, _ => by omega
 | n + 1, i, h, hi, hle => by
  have hs := v.sz_eq
  have hl := SValue.szs_len v.Items
  simp only [Fq7twice_L0, cond_eq, lss_t, rowsV_len]
  by_cases hlt : i < v.Items.length
  ·rw [if_pos (by omega)]
   have h1 := twice_L1 (N := N) (k0 := Fq7twice_L0 N v.Items n) hf hb hN hlt hi N 0 (by omega) (by omega) (by omega)
   rw [show ((0 : Nat) : Int) = 0 from rfl] at h1
   rw [h1]
   by_cases hx : ∃ j, 0 ≤ j ∧ j < i ∧ j % 2 = 0 ∧ AL v i j
   ·rw [if_pos hx]
    obtain ⟨j, _, j2, j3, j4⟩ := hx
    rw [if_pos ⟨i, j, Nat.le_refl _, hi, hlt, j2, j3, j4⟩]
   ·rw [if_neg hx, twice_L0 hf hb hN n (i + 2) (by omega) (by omega) (by omega)]
    by_cases hy : ∃ i' j, i + 2 ≤ i' ∧ i' % 2 = 0 ∧ i' < v.Items.length ∧ j < i' ∧ j % 2 = 0 ∧ AL v i' j
    ·rw [if_pos hy]
     obtain ⟨i', j, a1, a2, a3⟩ := hy
     rw [if_pos ⟨i', j, by omega, a2, a3⟩]
    ·rw [if_neg hy, if_neg]
     rintro ⟨i', j, a1, a2, a3, a4, a5, a6⟩
     by_cases he : i' = i
     ·subst he; exact hx ⟨j, by omega, a4, a5, a6⟩
     ·exact hy ⟨i', j, by omega, a2, a3, a4, a5, a6⟩
  ·rw [if_neg (by omega), if_neg]
   rintro ⟨i', j, a1, a2, a3, _⟩; omega
theorem keys_val (v : SValue) : keysS v = 0 ∨ keysS v = 16 := by
 unfold keysS
 split
 ·exact .inl rfl
 ·split
  ·exact .inr rfl
  ·exact .inl rfl
open Classical in
theorem twice_eq (N : Nat) (v : SValue) (hf : Fine v) (hk : v.Kind = 23) (hb : v.sz < 1000000) (hN : v.sz + 5 < N) : Fq7twice N v.Items = some (decide (keysS v = 16)) := by
 have hs := v.sz_eq
 have hl := SValue.szs_len v.Items
 have h0 := twice_L0 hf hb (show v.sz < N by omega) N 0 (by omega) (by omega) (by omega)
 rw [show ((0 : Nat) : Int) = 0 from rfl] at h0
 unfold Fq7twice
 rw [h0]
 have hkey : keysS v = 16 ↔ ∃ i j, 2 ≤ i ∧ i % 2 = 0 ∧ i < v.Items.length ∧ j < i ∧ j % 2 = 0 ∧ AL v i j := by
  unfold keysS
  rw [if_neg (fun h => h hk)]
  split
  ·rename_i hx; exact ⟨fun _ => hx, fun _ => rfl⟩
  ·rename_i hx; exact ⟨fun h => (by cases h), fun h => absurd h hx⟩
 by_cases hx : ∃ i' j, 0 ≤ i' ∧ i' % 2 = 0 ∧ i' < v.Items.length ∧ j < i' ∧ j % 2 = 0 ∧ AL v i' j
 ·rw [if_pos hx]
  obtain ⟨i, j, a1, a2, a3, a4, a5, a6⟩ := hx
  rw [decide_eq_true (hkey.2 ⟨i, j, by omega, a2, a3, a4, a5, a6⟩)]
 ·rw [if_neg hx, decide_eq_false]
  rw [hkey]
  rintro ⟨i, j, a1, a2, a3, a4, a5, a6⟩
  exact hx ⟨i, j, by omega, a2, a3, a4, a5, a6⟩
theorem refShaped_eq (N : Nat) (v : SValue) : Fq7shaped N v = some (shapedS v) := by
 rw [← shaped_eq 0 v]
 unfold Fq7shaped Favshaped
 simp only [cond_eq, eql_t, neq_t, cmpS_neq]
 by_cases h1 : v.Text ≠ []
 ·rw [if_pos h1, if_pos h1]
 rw [if_neg h1, if_neg h1]
 by_cases h2 : v.Kind = 24
 ·have e : cmpI .eql v.Kind 24 = true := by rw [eql_t]; exact h2
  simp only [e, if_pos h2, Bool.not_true, Bool.false_eq_true, if_false]
 ·have e : cmpI .eql v.Kind 24 = false := Bool.eq_false_iff.2 (by rw [ne_eq, eql_t]; exact h2)
  simp only [e, if_neg h2, Bool.not_false, if_true]
  split
  ·rfl
  ·split
   ·rfl
   ·by_cases h3 : v.Kind = 23
    ·rw [if_neg (by simp [h3]), if_pos h3]
    ·rw [if_pos h3, if_neg h3]
theorem refCheck1_L0 {R : SValue → Int → Option Int} {N : Nat} {v : SValue} {m : Int} (hf : Fine v) (hb : v.sz < 1000000) (hN : v.sz + 5 < N) (hm : 1 ≤ m ∧ m ≤ 32) (hR : ∀ y ∈ v.Items, R y (m - 1) = some (checkV y (m - 1))) : ∀ (n i : Nat), i ≤ v.Items.length → v.Items.length - i < n →
  Bq7check_L0 R N v m n (i : Int) = some (checkVs (v.Items.drop i) v.Kind v.N' (m - 1) (keysS v))
 | 0, i, _, h => by omega
 | n + 1, i, hi, hn => by
  have hs := v.sz_eq
  have hl := SValue.szs_len v.Items
  simp only [Bq7check_L0, cond_eq, lss_t, eql_t, neq_t, rowsV_len, idx_nat, wrap64 (m - 1) (show _ by omega)]
  by_cases h : i < v.Items.length
  ·rw [if_pos (by omega), List.getElem?_eq_getElem h, List.drop_eq_getElem_cons h, checkVs]
   simp only [Option.bind_some, hR _ (List.getElem_mem h)]
   rw [wrap64 _ (by omega)]
   have ih := refCheck1_L0 (N := N) hf hb hN hm hR n (i + 1) (by omega) (by omega)
   rw [show ((i : Int) + 1) = ((i + 1 : Nat) : Int) by push_cast; rfl, ih]
   by_cases h24 : v.Kind = 24
   ·rw [if_pos h24]
    by_cases hw : IntKind.u64.wrap v.Items[i].Kind ≠ v.N'
    ·rw [if_pos hw, if_pos ⟨h24, hw⟩]
    ·rw [if_neg hw, if_neg (show ¬ (v.Kind = 24 ∧ IntKind.u64.wrap v.Items[i].Kind ≠ v.N') from fun hh => hw hh.2)]
     by_cases hc : checkV v.Items[i] (m - 1) ≠ 0
     ·rw [if_pos hc, if_pos hc]
     ·rw [if_neg hc, if_neg hc]
   ·rw [if_neg h24, if_neg (show ¬ (v.Kind = 24 ∧ IntKind.u64.wrap v.Items[i].Kind ≠ v.N') from fun hh => h24 hh.1)]
    by_cases hc : checkV v.Items[i] (m - 1) ≠ 0
    ·rw [if_pos hc, if_pos hc]
    ·rw [if_neg hc, if_neg hc]
  ·rw [if_neg (by omega), List.drop_of_length_le (by omega), checkVs]
   by_cases h23 : v.Kind = 23
   ·rw [if_pos h23, twice_eq N v hf h23 hb hN]
    simp only [Option.bind_some]
    rcases keys_val v with h | h
    ·rw [h]; rfl
    ·rw [h]; rfl
   ·rw [if_neg h23]
    unfold keysS
    rw [if_pos h23]
theorem refCheck1_eq : ∀ (N : Nat) (v : SValue) (m : Int), Fine v → v.sz + 450 < N → v.sz < 1000000 → 0 ≤ m → m ≤ 32 → Fq7check N v m = some (checkV v m)
 | 0, v, m, _, h, _, _, _ => by omega
 | N + 1, v, m, hv, h, h2, m0, m1 => by
  have hs := v.sz_eq
  have hl := SValue.szs_len v.Items
  rw [checkV_eq]
  have ht := hv.text
  simp only [Fq7check, Bq7check, cond_eq, lss_t, gtr_t, leq_t, eql_t, rowsV_len, refCheck_eq N v hv.num (show v.Text.length < N by omega) (by omega), refShaped_eq, Option.bind_some]
  split
  ·rfl
  rename_i h1
  by_cases h25 : v.Kind > 25
  ·rw [if_pos h25, if_pos (show 25 < v.Kind from h25)]
  rw [if_neg h25, if_neg (show ¬ 25 < v.Kind from h25)]
  split
  ·rfl
  by_cases hm0 : m = 0
  ·rw [if_pos hm0, if_pos hm0]
  rw [if_neg hm0, if_neg hm0]
  cases shapedS v with
  | false => rfl
  | true =>
   simp only [Bool.not_true, Bool.false_eq_true, if_false, Bool.true_eq_false]
   by_cases hlen : 1000 < v.Items.length
   ·rw [if_pos (by omega), if_pos hlen]
   rw [if_neg (by omega), if_neg hlen]
   have := refCheck1_L0 (R := Fq7check N) (N := N) (v := v) (m := m) hv h2 (by omega) ⟨by omega, m1⟩ (fun y hy => refCheck1_eq N y (m - 1) (hv.items y hy) (by have := SValue.szs_mem _ y hy; omega) (by have := SValue.szs_mem _ y hy; omega) (by omega) (by omega)) N 0 (by omega) (by omega)
   exact this
theorem refCheckV_eq (N : Nat) (v : SValue) (m : Int) (hv : Fine v) (h : v.sz + 450 < N) (h2 : v.sz < 1000000) : Fq7Check N v m = some (checkM v m) := by
 simp only [Fq7Check, cond_eq, lss_t, gtr_t, checkM]
 by_cases h1 : m < 0
 ·rw [if_pos h1, if_pos (show rightS m = false from decide_eq_false (by omega))]
 by_cases h3 : m > 32
 ·rw [if_neg h1, if_pos h3, if_pos (show rightS m = false from decide_eq_false (by omega))]
 rw [if_neg h1, if_neg h3, if_neg (show ¬ (rightS m = false) by rw [show rightS m = true from decide_eq_true (by omega)]; simp), refCheck1_eq N v m hv h h2 (by omega) (by omega)]; rfl
theorem refDepth_L {R : SValue → Option Int} {N : Nat} {v : SValue} (hb : v.sz < 1000000) (hR : ∀ y ∈ v.Items, R y = some (y.dep : Int)) : ∀ (n i : Nat), i ≤ v.Items.length → v.Items.length - i < n →
  Bq7Depth_L0 R N v n (SValue.deps (v.Items.take i) : Nat) (i : Int) = some ((SValue.deps v.Items + 1 : Nat) : Int) ∧ Bq7Depth_L1 R N v n (SValue.deps (v.Items.take i) : Nat) (i : Int) = some ((SValue.deps v.Items + 1 : Nat) : Int) ∧
  Bq7Depth_L2 R N v n (SValue.deps (v.Items.take i) : Nat) (i : Int) = some ((SValue.deps v.Items + 1 : Nat) : Int) ∧ Bq7Depth_L3 R N v n (SValue.deps (v.Items.take i) : Nat) (i : Int) = some ((SValue.deps v.Items + 1 : Nat) : Int)
 | 0, i, _, h => by omega
 | n + 1, i, hi, hn => by
  have hs := v.sz_eq
  have hl := SValue.szs_len v.Items
  simp only [Bq7Depth_L0, Bq7Depth_L1, Bq7Depth_L2, Bq7Depth_L3, cond_eq, lss_t, rowsV_len, idx_nat]
  by_cases h : i < v.Items.length
  ·simp only [if_pos (show (i : Int) < v.Items.length by omega), List.getElem?_eq_getElem h, Option.bind_some, hR _ (List.getElem_mem h)]
   have e : ifB (decide ((v.Items[i].dep : Int) > (SValue.deps (v.Items.take i) : Nat))) (v.Items[i].dep : Int) (SValue.deps (v.Items.take i) : Nat) = (SValue.deps (v.Items.take (i + 1)) : Nat) := by
    rw [List.take_succ_eq_append_getElem h, deps_app]
    by_cases hc : (v.Items[i].dep : Int) > (SValue.deps (v.Items.take i) : Nat)
    ·rw [decide_eq_true hc]
     show (v.Items[i].dep : Int) = _
     rw [show Nat.max (SValue.deps (v.Items.take i)) v.Items[i].dep = v.Items[i].dep from Nat.max_eq_right (by omega)]
    ·rw [decide_eq_false hc]
     show ((SValue.deps (v.Items.take i) : Nat) : Int) = _
     rw [show Nat.max (SValue.deps (v.Items.take i)) v.Items[i].dep = SValue.deps (v.Items.take i) from Nat.max_eq_left (by omega)]
   rw [e, wrap64 _ (by omega)]
   exact_mod_cast refDepth_L (N := N) hb hR n (i + 1) (by omega) (by omega)
  ·have hd : SValue.deps v.Items ≤ v.sz := by
    have := v.dep_sz
    rw [v.dep_eq] at this
    split at this
    ·rename_i h0
     have : v.Items = [] := List.length_eq_zero_iff.1 h0.1
     rw [this]; simp [SValue.deps]
    ·omega
   simp only [if_neg (show ¬ ((i : Int) < v.Items.length) by omega), List.take_of_length_le (show v.Items.length ≤ i by omega)]
   rw [wrap64 _ (by omega)]
   exact ⟨by push_cast; rfl, by push_cast; rfl, by push_cast; rfl, by push_cast; rfl⟩
theorem refDepth_eq : ∀ (N : Nat) (v : SValue), v.sz < N → v.sz < 1000000 → Fq7Depth N v = some (v.dep : Int)
 | 0, v, h, _ => by omega
 | N + 1, v, h, h2 => by
  have hs := v.sz_eq
  have hl := SValue.szs_len v.Items
  obtain ⟨l0, l1, l2, l3⟩ := refDepth_L (R := Fq7Depth N) (N := N) (v := v) h2 (fun y hy => refDepth_eq N y (by have := SValue.szs_mem _ y hy; omega) (by have := SValue.szs_mem _ y hy; omega)) N 0 (by omega) (by omega)
  simp only [Fq7Depth, Bq7Depth, cond_eq, lss_t, gtr_t, eql_t, rowsV_len]
  rw [List.take_zero, show ((SValue.deps [] : Nat) : Int) = 0 from rfl, show ((0 : Nat) : Int) = 0 from rfl] at l0 l1 l2 l3
  rw [l0, l1, l2, l3, v.dep_eq]
  by_cases h0 : v.Items.length = 0
  ·by_cases h3 : v.Kind < 22
   ·rw [if_pos h3, if_pos (by omega), if_pos ⟨h0, .inl h3⟩]; rfl
   ·rw [if_neg h3]
    by_cases h4 : v.Kind > 25
    ·rw [if_pos h4, if_pos (by omega), if_pos ⟨h0, .inr h4⟩]; rfl
    ·rw [if_neg h4, if_neg (by omega)]
  ·rw [if_neg (show ¬ (v.Items.length = 0 ∧ _) from fun h => h0 h.1)]
   simp only [if_neg (show ¬ ((v.Items.length : Int) = 0) by omega)]
   repeat' split
   all_goals rfl
theorem Copy_L0 {R : SValue → Option SValue} {N : Nat} {v : SValue} (hb : v.sz < 1000000) (hR : ∀ y ∈ v.Items, R y = some y) : ∀ (n i : Nat), i ≤ v.Items.length → v.Items.length - i < n → BavCopy_L0 R N v n (i : Int) (v.Items.take i) = some v
 | 0, i, _, h => by omega
 | n + 1, i, hi, hn => by
  have hs := v.sz_eq
  have hl := SValue.szs_len v.Items
  simp only [BavCopy_L0, cond_eq, lss_t, rowsV_len, idx_nat]
  by_cases h : i < v.Items.length
  ·rw [if_pos (by omega), List.getElem?_eq_getElem h]
   simp only [Option.bind_some, hR _ (List.getElem_mem h)]
   rw [if_pos (by rw [Nat.ble_eq, List.length_take]; omega), wrap64 _ (by omega), ← List.take_succ_eq_append_getElem h]
   exact_mod_cast Copy_L0 (N := N) hb hR n (i + 1) (by omega) (by omega)
  ·rw [if_neg (by omega), List.take_of_length_le (by omega)]
   cases v; rfl
theorem Copy_eq : ∀ (N : Nat) (v : SValue), v.sz < N → v.sz < 1000000 → FavCopy N v = some v
 | 0, v, h, _ => by omega
 | N + 1, v, h, h2 => by
  have hs := v.sz_eq
  have hl := SValue.szs_len v.Items
  have := Copy_L0 (R := FavCopy N) (N := N) (v := v) h2 (fun y hy => Copy_eq N y (by have := SValue.szs_mem _ y hy; omega) (by have := SValue.szs_mem _ y hy; omega)) N 0 (by omega) (by omega)
  exact this
end
end Go.Av
namespace Go.Av
noncomputable section
open Go.Proofs
set_option maxRecDepth 100000
/-! the reference's reading of layer 17 -/
theorem ref_loop {Lp : Nat → List UInt8 → Int → List SValue → Option Rd} {nx : List UInt8 → Option Rd} {E : List UInt8 → List SValue → Option Rd} {v11 k num : Int} {cnt tot : Nat} {rd : List UInt8 → Rd}
  (hLp : ∀ n body i l, Lp (n + 1) body i l = cond (cmpI .lss i v11) ((nx body).bind fun v => cond (cmpI .eql v.2.2 3) (some ((⟨0, 0, [], []⟩ : SValue), 0, 5)) (cond (cmpI .neq v.2.2 0) (some ((⟨0, 0, [], []⟩ : SValue), 0, v.2.2)) (cond (Nat.ble ((l.length + 1 + 4096) * 56) 17592186044416) (cond (decide (0 ≤ v.2.1)) (cond (Nat.ble v.2.1.toNat body.length && Nat.ble body.length body.length) (Lp n ((body.take body.length).drop v.2.1.toNat) (IntKind.wrap .u64 (i + 1)) (l ++ [v.1])) none) none) none))) (E body l))
  (h11 : v11 = (cnt : Int)) (hc : cnt ≤ 1000) (hR : ∀ s, s.length ≤ 400 → nx s = some (rd s)) (hg : Good rd) (hf : ∀ s, s.length ≤ 400 → (rd s).2.2 = 0 → Fine (rd s).1)
  (hE : ∀ body l, (∀ x ∈ l, Fine x) → SValue.szs l ≤ 401000 → E body l = some (fin2 k num ((l, body), 0) tot)) :
  ∀ (n i : Nat) (body : List UInt8) (l : List SValue), i ≤ cnt → cnt - i < n → body.length ≤ 400 → l.length = i → (∀ x ∈ l, Fine x) → SValue.szs l ≤ i + 1000 * (400 - body.length) →
  Lp n body (i : Int) l = some (fin2 k num (rdAll rd (cnt - i) body l) tot)
 | 0, i, body, l, _, h, _, _, _, _ => by omega
 | n + 1, i, body, l, hi, hn, hb, hl, hfl, hz => by
  rw [hLp]
  simp only [cond_eq, lss_t, eql_t, neq_t, h11, hR body hb, Option.bind_some, List.take_length]
  by_cases hic : i < cnt
  ·rw [if_pos (by omega)]
   obtain ⟨k', hk⟩ : ∃ k', cnt - i = k' + 1 := ⟨cnt - i - 1, by omega⟩
   rw [hk, rdAll]
   have hgd := hg body (by omega)
   have hfd := hf body hb
   generalize hr : rd body = r at hgd hfd ⊢
   obtain ⟨x, m, e⟩ := r
   simp only [] at hgd hfd ⊢
   by_cases he : e = 0
   ·subst he
    obtain ⟨g1, g2, g3⟩ := hgd rfl
    obtain ⟨mm, rfl⟩ := Int.eq_ofNat_of_zero_le g1
    simp only [Int.toNat_natCast] at g3 ⊢
    rw [if_neg (by decide), if_neg (by simp), if_pos (by simp [Nat.ble_eq]; omega), if_pos (by simp), if_pos (by simp [Nat.ble_eq]; omega), u64s i (by omega), if_neg (by simp)]
    have ih := ref_loop hLp h11 hc hR hg hf hE n (i + 1) (body.drop mm) (l ++ [x]) (by omega) (by omega) (by rw [List.length_drop]; omega) (by simp [hl]) (fun y hy => by
     rcases List.mem_append.1 hy with hy | hy
     ·exact hfl y hy
     ·rw [List.mem_singleton.1 hy]; exact hfd rfl) (by
     rw [SValue.szs_app, List.length_drop]
     simp only [SValue.szs] at g3 ⊢
     omega)
    rw [ih, show cnt - (i + 1) = k' by omega]
   ·rw [if_pos (show e ≠ 0 from he), if_pos (show e ≠ 0 from he), fin2_err he]
    by_cases h3 : e = 3
    ·rw [if_pos h3, if_pos h3]; rfl
    ·rw [if_neg h3, if_neg h3]; rfl
  ·rw [if_neg (by omega), show cnt - i = 0 by omega, rdAll]
   exact hE body l hfl (by omega)
theorem ref_end1 {N : Nat} {body : List UInt8} {l : List SValue} {a : Int} {tot : Nat} (hfl : ∀ x ∈ l, Fine x) (hz : SValue.szs l ≤ 401000) (hN : 700000 < N) (ha : a = (tot : Int)) :
  (cond (cmpS .neq body []) (some ((⟨0, 0, [], []⟩ : SValue), (0 : Int), (5 : Int))) ((Fq7twice N l).bind fun v101 => cond v101 (some ((⟨0, 0, [], []⟩ : SValue), 0, 16)) (some ((⟨23, 0, [], l⟩ : SValue), a, 0)))) = some (fin2 23 0 ((l, body), 0) tot) := by
 have hs : SValue.sz ⟨23, 0, [], l⟩ = 1 + SValue.szs l := by rw [SValue.sz_eq]
 have h1 := twice_eq N ⟨23, 0, [], l⟩ (.mk _ okU0 (by simp) hfl) rfl (by omega) (by omega)
 simp only at h1
 simp only [h1, cond_eq, cmpS_neq, Option.bind_some, ha]
 unfold fin2
 simp only []
 rw [if_neg (show ¬ ((0 : Int) ≠ 0) by simp)]
 by_cases hb : body ≠ []
 ·rw [if_pos hb, if_pos hb]; rfl
 ·rw [if_neg hb, if_neg hb]
  rcases keys_val ⟨23, 0, [], l⟩ with h | h
  ·rw [h]; simp
  ·rw [h]; simp [zeroV]
theorem ref_end2 {body : List UInt8} {l : List SValue} {k num a : Int} {tot : Nat} (hk : k ≠ 23) (ha : a = (tot : Int)) :
  (cond (cmpS .neq body []) (some ((⟨0, 0, [], []⟩ : SValue), (0 : Int), (5 : Int))) (some ((⟨k, num, [], l⟩ : SValue), a, 0))) = some (fin2 k num ((l, body), 0) tot) := by
 simp only [cond_eq, cmpS_neq, ha]
 unfold fin2
 simp only []
 rw [if_neg (show ¬ ((0 : Int) ≠ 0) by simp), keys_no hk]
 by_cases hb : body ≠ []
 ·rw [if_pos hb, if_pos hb]; rfl
 ·rw [if_neg hb, if_neg hb, if_neg (by simp)]
theorem fine_leaf : ∀ (m : Nat) (code : Int) (s : List UInt8), s.length ≤ 400 → (dataR m code s).2.2 = 0 → Fine (dataR m code s).1 := fun m code s h1 h2 => (read_valid m code s h1 h2).1
theorem fine_read (m : Nat) (s : List UInt8) (h1 : s.length ≤ 400) (h2 : (readOf (dataR m) s).2.2 = 0) : Fine (readOf (dataR m) s).1 := by
 obtain ⟨b, u, rfl, e1, e2⟩ := read_inv h2
 have := read_valid m b.toNat u (by simp at h1; omega) e1
 rw [e2]; exact this.1
theorem refSizedF {R1 : List UInt8 → Int → Option Rd} {R2 : Int → List UInt8 → Int → Option Rd} {R3 : SCtor → List UInt8 → Int → Option Rd} {R4 : Int → List UInt8 → Int → Option Rd} {N m m' : Nat} {c : SCtor} {s : List UInt8}
  (hN : 700000 < N) (hm : m + 1 ≤ 32) (hs : s.length ≤ 400) (hw : c.Width = 1 ∨ c.Width = 4) (_hk : 22 ≤ c.Kind ∧ c.Kind ≤ 24)
  (h1 : ∀ t, t.length ≤ 400 → R4 (-1) t (((m + 1 : Nat) : Int) - 1) = some (readOf (dataR m') t)) (h2 : ∀ code t, 0 ≤ code → t.length ≤ 400 → R4 code t (((m + 1 : Nat) : Int) - 1) = some (dataR m' code t)) :
  Bq7sized R1 R2 R3 R4 N c s ((m + 1 : Nat) : Int) = some (sizedR (dataR m') c s) := by
 obtain ⟨w, hw1, hw2⟩ : ∃ w : Nat, c.Width = w ∧ (w = 1 ∨ w = 4) := by
  rcases hw with h | h
  ·exact ⟨1, h, .inl rfl⟩
  ·exact ⟨4, h, .inr rfl⟩
 have hg := good_data m'
 simp only [Bq7sized, hw1, cond_eq, lss_t, gtr_t, eql_t, neq_t, Int.toNat_natCast, List.drop_zero]
 unfold sizedR
 rw [hw1, Int.toNat_natCast]
 by_cases hl : s.length < w
 ·rw [if_pos (by omega), if_pos hl]; rfl
 rw [if_neg (by omega), if_neg hl, if_pos (by simp), if_pos (by simp [Nat.ble_eq]; omega), Num_eq N (s.take w) (by rw [List.length_take]; omega) (by omega)]
 simp only [Option.bind_some]
 have hlt := numB_lt (s.take w)
 have h4 : 256 ^ (s.take w).length ≤ 256 ^ 4 := Nat.pow_le_pow_right (by omega) (by rw [List.length_take]; omega)
 have h5 : (256 : Nat) ^ 4 = 4294967296 := rfl
 generalize hn : numB (s.take w) = n at *
 rw [show IntKind.i64.wrap ((s.length : Int) - (w : Int)) = ((s.length - w : Nat) : Int) by rw [wrap64 _ (by omega)]; omega, wrapLen _ (by omega)]
 by_cases h6 : s.length - w < n
 ·rw [if_pos (by omega), if_pos h6]; rfl
 have e1 : IntKind.i64.wrap ((w : Int) + IntKind.i64.wrap (n : Int)) = ((w + n : Nat) : Int) := by
  rw [wrap64 (n : Int) (by omega), wrap64 _ (by omega)]; push_cast; rfl
 rw [if_neg (by omega), if_neg h6]
 simp only [e1, Int.toNat_natCast]
 rw [if_pos (by simp; omega), if_pos (by simp [Nat.ble_eq]; omega)]
 have e2 : (s.take (w + n)).drop w = (s.drop w).take n := by rw [List.drop_take]; congr 1; omega
 simp only [e2]
 have hbl : ((s.drop w).take n).length = n := by rw [List.length_take, List.length_drop]; omega
 generalize hbody : (s.drop w).take n = body at *
 simp only [List.take_length]
 unfold bodyR
 by_cases h7 : body.length < w
 ·rw [if_pos (by omega), if_pos h7]; rfl
 rw [if_neg (by omega), if_neg h7, if_pos (by simp [Nat.ble_eq]; omega), Num_eq N (body.take w) (by rw [List.length_take]; omega) (by omega)]
 simp only [Option.bind_some]
 rw [if_pos (by simp [Nat.ble_eq]; omega)]
 generalize hcnt : numB (body.take w) = cnt at *
 by_cases h8 : 1000 < cnt
 ·rw [if_pos (by omega), if_pos h8]; rfl
 rw [if_neg (by omega), if_neg h8]
 simp only [tmod2]
 have hdl : (body.drop w).length ≤ 400 := by rw [List.length_drop]; omega
 by_cases h23 : c.Kind = 23
 ·rw [if_pos h23]
  by_cases h9 : cnt % 2 ≠ 0
  ·rw [if_pos h9, if_pos ⟨h23, h9⟩]; rfl
  ·rw [if_neg h9, if_neg (show ¬ (c.Kind = 23 ∧ cnt % 2 ≠ 0) from fun h => h9 h.2), if_neg (by omega), if_neg (show ¬ c.Kind = 24 by omega)]
   have := ref_loop (Lp := Bq7sized_L1 R4 N c ((m + 1 : Nat) : Int) (n : Int) (cnt : Int)) (nx := fun body => R4 (-1) body (IntKind.i64.wrap (((m + 1 : Nat) : Int) - 1))) (v11 := (cnt : Int)) (k := c.Kind) (num := 0) (cnt := cnt) (tot := w + n) (rd := readOf (dataR m')) (fun _ _ _ _ => rfl) rfl (by omega) (fun s hs => by rw [wrap64 _ (by omega)]; exact h1 s hs) (good_read hg).1 (fun s hs he => fine_read m' s hs he) (fun body l hf hz => by
    have := ref_end1 (N := N) (body := body) (l := l) (tot := w + n) hf hz hN rfl
    rw [h23, hw1, e1]; exact this) N 0 (body.drop w) [] (by omega) (by omega) hdl rfl (by simp) (by simp [SValue.szs])
   rw [Nat.sub_zero] at this
   exact this
 ·rw [if_neg h23, if_neg (show ¬ (c.Kind = 23 ∧ cnt % 2 ≠ 0) from fun h => h23 h.1)]
  by_cases h24 : c.Kind = 24
  ·rw [if_pos h24, if_pos h24]
   cases hd : body.drop w with
   | nil => rfl
   | cons b t =>
    rw [if_neg (by simp [cmpS]), show idx (b :: t) 0 = some b from rfl]
    simp only [Option.bind_some, arrR, wrapC]
    rw [refOf_eq N _ (by omega)]
    simp only [Option.bind_some]
    cases ho : ofB (b.toNat : Int) with
    | false => rw [if_pos (by rfl), if_pos (.inl rfl)]; rfl
    | true =>
     rw [if_neg (by simp)]
     by_cases hb0 : b.toNat = 0
     ·rw [if_pos (by omega), if_pos (.inr hb0)]; rfl
     ·rw [if_neg (show ¬ ((b.toNat : Int) = 0) by omega), if_neg (show ¬ (true = false ∨ b.toNat = 0) by simp [hb0]), if_pos (show (Nat.ble 1 (b :: t).length && Nat.ble (b :: t).length (b :: t).length) = true by simp [Nat.ble_eq])]
      have hkb := (well _ ho).kind
      have htl : t.length ≤ 400 := by
       have := congrArg List.length hd
       rw [List.length_drop, List.length_cons] at this; omega
      have := ref_loop (Lp := Bq7sized_L2 R4 N c ((m + 1 : Nat) : Int) (n : Int) (cnt : Int) b (ofS (b.toNat : Int), true)) (nx := fun body => R4 (IntKind.i64.wrap (b.toNat : Int)) body (IntKind.i64.wrap (((m + 1 : Nat) : Int) - 1))) (v11 := (cnt : Int)) (k := c.Kind) (num := (ofS (b.toNat : Int)).Kind) (cnt := cnt) (tot := w + n) (rd := dataR m' (b.toNat : Int)) (fun _ _ _ _ => rfl) rfl (by omega) (fun s hs => by rw [wrapC, wrap64 _ (by omega)]; exact h2 _ s (by omega) hs) (hg _) (fun s hs he => fine_leaf m' _ s hs he) (fun body l hf hz => by
       have := ref_end2 (body := body) (l := l) (k := c.Kind) (num := (ofS (b.toNat : Int)).Kind) (tot := w + n) h23 (a := ((w + n : Nat) : Int)) rfl
       rw [hw1, e1, show IntKind.u64.wrap (ofS (b.toNat : Int)).Kind = (ofS (b.toNat : Int)).Kind by rw [wrapU]; omega]; exact this) N 0 t [] (by omega) (by omega) htl rfl (by simp) (by simp [SValue.szs])
      rw [Nat.sub_zero] at this
      simp only [List.drop_succ_cons, List.drop_zero]
      exact this
  ·rw [if_neg h24, if_neg h24]
   have := ref_loop (Lp := Bq7sized_L3 R4 N c ((m + 1 : Nat) : Int) (n : Int) (cnt : Int)) (nx := fun body => R4 (-1) body (IntKind.i64.wrap (((m + 1 : Nat) : Int) - 1))) (v11 := (cnt : Int)) (k := c.Kind) (num := 0) (cnt := cnt) (tot := w + n) (rd := readOf (dataR m')) (fun _ _ _ _ => rfl) rfl (by omega) (fun s hs => by rw [wrap64 _ (by omega)]; exact h1 s hs) (good_read hg).1 (fun s hs he => fine_read m' s hs he) (fun body l hf hz => by
    have := ref_end2 (body := body) (l := l) (k := c.Kind) (num := 0) (tot := w + n) h23 (a := ((w + n : Nat) : Int)) rfl
    rw [hw1, e1]; exact this) N 0 (body.drop w) [] (by omega) (by omega) hdl rfl (by simp) (by simp [SValue.szs])
   rw [Nat.sub_zero] at this
   exact this
theorem refReadF {m N : Nat} {s : List UInt8} (hm : m ≤ 32) (hs : s.length ≤ 400) (h : ∀ code t, t.length ≤ s.length → Fq7Data N code t (m : Int) = some (dataR m code t)) : Fq7Read (N + 1) s (m : Int) = some (readOf (dataR m) s) := by
 show Bq7Read (Fq7Read N) (Fq7Data N) (Fq7sized N) (Fq7next N) N s (m : Int) = _
 simp only [Bq7Read, cond_eq, lss_t, gtr_t, neq_t]
 rw [if_neg (by omega), if_neg (by omega)]
 cases s with
 | nil => rfl
 | cons b t =>
  rw [if_neg (by simp [cmpS]), show idx (b :: t) 0 = some b from rfl]
  simp only [Option.bind_some]
  rw [if_pos (by simp [Nat.ble_eq]), List.take_length, wrapC]
  simp only [List.drop_succ_cons, List.drop_zero]
  rw [h _ t (by simp)]
  simp only [Option.bind_some, readOf]
  by_cases he : (dataR m (b.toNat : Int) t).2.2 = 0
  ·rw [if_neg (by simp [he]), if_neg (by simp [he])]
   obtain ⟨g1, g2, g3⟩ := good_data m (b.toNat : Int) t (by simp at hs; omega) he
   rw [wrap64 _ (by simp at hs; omega)]
  ·rw [if_pos he, if_pos he]; rfl
theorem refDataF : ∀ m : Nat, m ≤ 32 → ∀ N : Nat, 700100 + 5 * m < N → ∀ (code : Int) (s : List UInt8), s.length ≤ 400 → Fq7Data N code s (m : Int) = some (dataR m code s) := by
 intro m
 induction m with
 | zero =>
  intro hm N hN code s hs
  obtain ⟨N, rfl⟩ : ∃ K, N = K + 1 := ⟨N - 1, by omega⟩
  show Bq7Data (Fq7Read N) (Fq7Data N) (Fq7sized N) (Fq7next N) N code s ((0 : Nat) : Int) = _
  simp only [Bq7Data, cond_eq, lss_t, gtr_t, eql_t, neq_t, refOf_eq N code (by omega), Option.bind_some, dataR]
  rw [if_neg (by omega), if_neg (by omega)]
  cases h1 : ofB code with
  | false => rfl
  | true =>
   simp only [Bool.not_true, Bool.false_eq_true, if_false, Bool.true_eq_false]
   cases h2 : (ofS code).Items with
   | false =>
    simp only [Bool.not_false, if_true]
    rw [refGet_eq N code s (by omega) (by omega) (by omega)]; rfl
   | true => rfl
 | succ m ih =>
  intro hm N hN code s hs
  obtain ⟨N, rfl⟩ : ∃ K, N = K + 5 := ⟨N - 5, by omega⟩
  show Bq7Data (Fq7Read (N + 4)) (Fq7Data (N + 4)) (Fq7sized (N + 4)) (Fq7next (N + 4)) (N + 4) code s ((m + 1 : Nat) : Int) = _
  simp only [Bq7Data, cond_eq, lss_t, gtr_t, eql_t, neq_t, refOf_eq (N + 4) code (by omega), Option.bind_some, dataR, wrap64 (((m + 1 : Nat) : Int) - 1) (show _ by omega)]
  rw [if_neg (by omega), if_neg (by omega)]
  cases h1 : ofB code with
  | false => rfl
  | true =>
   simp only [Bool.not_true, Bool.false_eq_true, if_false, Bool.true_eq_false]
   cases h2 : (ofS code).Items with
   | false =>
    simp only [Bool.not_false, if_true]
    rw [refGet_eq (N + 4) code s (by omega) (by omega) (by omega)]; rfl
   | true =>
    simp only [Bool.not_true, Bool.false_eq_true, if_false, Bool.true_eq_false]
    rw [if_neg (show ¬ (((m + 1 : Nat) : Int) = 0) by omega)]
    have em : (((m + 1 : Nat) : Int) - 1) = (m : Int) := by omega
    have hR : ∀ K, N + 1 ≤ K → ∀ t : List UInt8, t.length ≤ 400 → Fq7Read K t (m : Int) = some (readOf (dataR m) t) := fun K hK t ht => by
     obtain ⟨K, rfl⟩ : ∃ J, K = J + 1 := ⟨K - 1, by omega⟩
     exact refReadF (by omega) ht (fun code u hu => ih (by omega) K (by omega) code u (by omega))
    cases h4 : (ofS code).Sized with
    | true =>
     have hsh := (items_shape h1 h2).1 h4
     rw [if_pos rfl, if_neg (show ¬ (ofS code).Kind = 25 by omega)]
     simp only [Bool.true_eq_false, if_false]
     show (Bq7sized (Fq7Read (N + 3)) (Fq7Data (N + 3)) (Fq7sized (N + 3)) (Fq7next (N + 3)) (N + 3) (ofS code) s ((m + 1 : Nat) : Int)).bind _ = _
     rw [refSizedF (m := m) (m' := m) (c := ofS code) (by omega) hm hs hsh.1 hsh.2 (fun t ht => by
      rw [em]
      show Bq7next (Fq7Read (N + 2)) (Fq7Data (N + 2)) (Fq7sized (N + 2)) (Fq7next (N + 2)) (N + 2) (-1) t (m : Int) = _
      simp only [Bq7next, cond_eq, lss_t]
      rw [if_pos (by decide), hR (N + 2) (by omega) t ht]; rfl) (fun code t hc ht => by
      rw [em]
      show Bq7next (Fq7Read (N + 2)) (Fq7Data (N + 2)) (Fq7sized (N + 2)) (Fq7next (N + 2)) (N + 2) code t (m : Int) = _
      simp only [Bq7next, cond_eq, lss_t]
      rw [if_neg (by omega), ih (by omega) (N + 2) (by omega) code t ht]; rfl)]; rfl
    | false =>
     have hsh := (items_shape h1 h2).2 h4
     simp only [Bool.false_eq_true, if_false, if_true]
     by_cases h22 : (ofS code).Kind = 22
     ·rw [if_pos h22, if_neg (show ¬ (ofS code).Kind = 25 by omega), h22]
     ·rw [if_neg h22, if_pos (show (ofS code).Kind = 25 by omega), em, hR (N + 4) (by omega) s hs]
      have hgr := (good_read (good_data m)).1
      simp only [Option.bind_some]
      unfold descR
      rw [rdAll]
      have hg1 := hgr s (by omega)
      generalize hr : readOf (dataR m) s = r at hg1 ⊢
      obtain ⟨x, n, e⟩ := r
      simp only [] at hg1 ⊢
      by_cases he : e = 0
      ·subst he
       obtain ⟨g1, g2, g3⟩ := hg1 rfl
       obtain ⟨n, rfl⟩ := Int.eq_ofNat_of_zero_le g1
       simp only [Int.toNat_natCast, List.take_length]
       rw [if_neg (by simp), if_pos (by simp), if_pos (by simp [Nat.ble_eq]; omega), hR (N + 4) (by omega) (s.drop n) (by rw [List.length_drop]; omega)]
       simp only [Option.bind_some]
       rw [if_neg (show ¬ ((0 : Int) ≠ 0) by simp), rdAll]
       have hg2 := hgr (s.drop n) (by rw [List.length_drop]; omega)
       generalize hr2 : readOf (dataR m) (s.drop n) = r2 at hg2 ⊢
       obtain ⟨x2, n2, e2⟩ := r2
       simp only [] at hg2 ⊢
       by_cases he2 : e2 = 0
       ·subst he2
        obtain ⟨q1, q2, q3⟩ := hg2 rfl
        obtain ⟨n2, rfl⟩ := Int.eq_ofNat_of_zero_le q1
        rw [List.length_drop] at q2
        rw [if_neg (by simp), if_neg (show ¬ ((0 : Int) ≠ 0) by simp), rdAll]
        simp only []
        rw [if_neg (by simp), wrap64 _ (by omega)]
        simp only [Int.toNat_natCast, List.length_drop, List.nil_append, List.cons_append]
        congr 3
        omega
       ·rw [if_pos he2, if_pos (show e2 ≠ 0 from he2)]
        simp only []
        rw [if_pos (show e2 ≠ 0 from he2)]; rfl
      ·rw [if_pos he, if_pos (show e ≠ 0 from he)]
       simp only []
       rw [if_pos (show e ≠ 0 from he)]; rfl
theorem refReadF' (m N : Nat) (s : List UInt8) (hm : m ≤ 32) (hN : 700200 + 5 * m < N) (hs : s.length ≤ 400) : Fq7Read N s (m : Int) = some (readOf (dataR m) s) := by
 obtain ⟨N, rfl⟩ : ∃ K, N = K + 1 := ⟨N - 1, by omega⟩
 exact refReadF hm hs (fun code t ht => refDataF m hm N (by omega) code t (by omega))
end
end Go.Av
namespace Go.Av
noncomputable section
open Go.Proofs
set_option maxRecDepth 100000
theorem lives17c : Fw7lives 800000 = some true := by decide +kernel
theorem readM (N : Nat) (s : List UInt8) (most : Int) (hs : s.length ≤ 400) (hN : 700500 < N) : ∃ r : Rd, FavRead N s most = some r ∧ Fq7Read N s most = some r ∧ (r.1).sz ≤ 401000 := by
 by_cases h : 0 ≤ most ∧ most ≤ 32
 ·obtain ⟨m, rfl⟩ := Int.eq_ofNat_of_zero_le h.1
  refine ⟨_, readF' m N s (by omega) (by omega) (by omega), refReadF' m N s (by omega) (by omega) hs, ?_⟩
  by_cases he : (readOf (dataR m) s).2.2 = 0
  ·have := (good_read (good_data m)).1 s (by omega) he
   omega
  ·rw [(zero_read s he).1]; decide
 ·obtain ⟨N, rfl⟩ : ∃ K, N = K + 1 := ⟨N - 1, by omega⟩
  refine ⟨(zeroV, 0, 2), ?_, ?_, by decide⟩
  ·show BavRead (FavRead N) (FavData N) (Favdescribed N) (Favsized N) N s most = _
   simp only [BavRead, right_eq, show rightS most = false from decide_eq_false h, Option.bind_some, cond_eq, Bool.not_false, if_true]; rfl
  ·show Bq7Read (Fq7Read N) (Fq7Data N) (Fq7sized N) (Fq7next N) N s most = _
   simp only [Bq7Read, cond_eq, lss_t, gtr_t]
   by_cases h1 : most < 0
   ·rw [if_pos h1]; rfl
   ·rw [if_neg h1, if_pos (show most > 32 by omega)]; rfl
theorem bad_data {m : Nat} {code : Int} {s : List UInt8} (h : (dataR m code s).2.2 ≠ 0) : (dataR m code s).1 = zeroV := by
 have leaf : (getS code s).2.2 ≠ 0 → (getS code s).1 = zeroV := fun h => by
  generalize hg : getS code s = g at h ⊢
  obtain ⟨x, n, e⟩ := g
  exact (get_bad hg h).2
 have fin : ∀ {k num : Int} {q : (List SValue × List UInt8) × Int} {tot : Nat}, (fin2 k num q tot).2.2 ≠ 0 → (fin2 k num q tot).1 = zeroV := fun {k num q tot} h => by
  unfold fin2 at h ⊢
  repeat' split
  all_goals first | rfl | skip
  rename_i h1 h2 h3
  rw [if_neg h1, if_neg h2, if_neg h3] at h
  exact absurd rfl h
 cases m with
 | zero =>
  rw [dataR] at h ⊢
  split at h
  ·rename_i h1; rw [if_pos h1]
  rename_i h1; rw [if_neg h1]
  split at h
  ·rename_i h2; rw [if_pos h2]; exact leaf h
  ·rename_i h2; rw [if_neg h2]
 | succ m =>
  rw [dataR] at h ⊢
  split at h
  ·rename_i h1; rw [if_pos h1]
  rename_i h1; rw [if_neg h1]
  split at h
  ·rename_i h2; rw [if_pos h2]; exact leaf h
  rename_i h2; rw [if_neg h2]
  split at h
  ·rename_i h3; rw [if_pos h3]
   unfold descR at h ⊢
   split at h
   ·rename_i h4; rw [if_pos h4]
   ·exact absurd rfl h
  rename_i h3; rw [if_neg h3]
  split at h
  ·exact absurd rfl h
  rename_i h4; rw [if_neg h4]
  unfold sizedR at h ⊢
  split at h
  ·rename_i h5; rw [if_pos h5]
  rename_i h5; rw [if_neg h5]
  split at h
  ·rename_i h6; rw [if_pos h6]
  rename_i h6; rw [if_neg h6]
  unfold bodyR at h ⊢
  split at h
  ·rename_i h7; rw [if_pos h7]
  rename_i h7; rw [if_neg h7]
  split at h
  ·rename_i h8; rw [if_pos h8]
  rename_i h8; rw [if_neg h8]
  split at h
  ·rename_i h9; rw [if_pos h9]
  rename_i h9; rw [if_neg h9]
  split at h
  ·rename_i h10; rw [if_pos h10]
   generalize List.drop (ofS code).Width.toNat ((s.drop (ofS code).Width.toNat).take (numB (s.take (ofS code).Width.toNat))) = l at h ⊢
   cases l with
   | nil => rfl
   | cons b t =>
    simp only [arrR] at h ⊢
    split at h
    ·rename_i h11; rw [if_pos h11]
    ·rename_i h11; rw [if_neg h11]; exact fin h
  ·rename_i h10; rw [if_neg h10]; exact fin h
theorem dataM (N : Nat) (code : Int) (s : List UInt8) (most : Int) (hs : s.length ≤ 400) (hN : 700500 < N) : ∃ r : Rd, FavData N code s most = some r ∧ Fq7Data N code s most = some r ∧ (r.1).sz ≤ 401000 := by
 by_cases h : 0 ≤ most ∧ most ≤ 32
 ·obtain ⟨m, rfl⟩ := Int.eq_ofNat_of_zero_le h.1
  refine ⟨_, dataF m (by omega) N (by omega) code s (by omega), refDataF m (by omega) N (by omega) code s hs, ?_⟩
  by_cases he : (dataR m code s).2.2 = 0
  ·have := good_data m code s (by omega) he
   omega
  ·rw [bad_data he]; decide
 ·obtain ⟨N, rfl⟩ : ∃ K, N = K + 1 := ⟨N - 1, by omega⟩
  refine ⟨(zeroV, 0, 2), ?_, ?_, by decide⟩
  ·show BavData (FavRead N) (FavData N) (Favdescribed N) (Favsized N) N code s most = _
   simp only [BavData, right_eq, show rightS most = false from decide_eq_false h, Option.bind_some, cond_eq, Bool.not_false, if_true]; rfl
  ·show Bq7Data (Fq7Read N) (Fq7Data N) (Fq7sized N) (Fq7next N) N code s most = _
   simp only [Bq7Data, cond_eq, lss_t, gtr_t]
   by_cases h1 : most < 0
   ·rw [if_pos h1]; rfl
   ·rw [if_neg h1, if_pos (show most > 32 by omega)]; rfl
theorem Calls17_true (a b : SValue) (s : List UInt8) (code most : Int) (ha : OkV a) : Fw7AmqvalueCalls 800000 a b s code most = some true := by
 obtain ⟨b1, l1, l2⟩ := Light_spec 800000 a (by omega)
 obtain ⟨b2, l3, l4⟩ := Light_spec 800000 b (by omega)
 simp only [Fw7AmqvalueCalls, lives17c, Option.bind_some, cond_eq, Bool.not_true, Bool.false_eq_true, if_false, l1, l3]
 cases b1 with
 | false => rfl
 | true =>
  cases b2 with
  | false => rfl
  | true =>
   obtain ⟨s1, t1⟩ := l2 rfl
   have hf := fine_of a ha t1
   simp only [Bool.not_true, Bool.false_eq_true, if_false, gtr_t]
   by_cases hs : s.length > 200
   ·rw [if_pos (by omega)]
   rw [if_neg (by omega)]
   obtain ⟨r, e1, e2, e3⟩ := readM 800000 s most (by omega) (by omega)
   obtain ⟨q, e4, e5, e6⟩ := dataM 800000 code s most (by omega) (by omega)
   simp only [e1, e2, e4, e5, Option.bind_some, SameValue_eq 800000 r.1 r.1 (by omega) (by omega), SameValue_eq 800000 q.1 q.1 (by omega) (by omega), decide_true, if_true, eql_t,
    CheckV_eq 800000 a most hf (by omega) (by omega), refCheckV_eq 800000 a most hf (by omega) (by omega), Depth_eq 800000 a (by omega) (by omega), refDepth_eq 800000 a (by omega) (by omega),
    Count_eq 800000 a (by omega) (by omega), refCount_eq 800000 a (by omega) (by omega), Same_eq 800000 a b (by omega) (by omega), refSame_eq 800000 a b (by omega) (by omega), beq_self_eq_true,
    Copy_eq 800000 a (by omega) (by omega), SameValue_eq 800000 a a (by omega) (by omega)]
end
end Go.Av
