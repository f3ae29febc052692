/- The law. Part of a proof of a given statement: for every input the law returns true and the arguments read as before; no condition beyond the given row. -/
import Derived.Test.YtkemhhfbpniioaaGreatDoorPlain
import Derived.Test.YtkemhhfbpniioaaGreatDoorLiftF3
namespace Go.Av
noncomputable section
open Go.Proofs
set_option maxRecDepth 100000
def Qop (k : Nat) : Bool := !(Vb k).2.2.2.2 || (if (Vb k).2.2.2.1 then decide (((Vb k).2.2.1 = 1 ∨ (Vb k).2.2.1 = 4) ∧ 22 ≤ (Vb k).2.1 ∧ (Vb k).2.1 ≤ 24) else decide ((Vb k).2.1 = 25 ∨ (Vb k).2.1 = 22))
theorem Qka : ((List.range 40).all Qop) = true := by decide +kernel
theorem Qr3 {P : Int × Int × Int × Bool × Bool → Prop} {B : Nat → Bool} (hB : ((List.range 40).all B) = true) (hP : ∀ k, B k = true → P (Vb k)) {code : Int} (h : ofB code = true) : P (ofT code) := by
 have h1 : bsI code < 40 ∧ J8 (bsI code) = code := by simpa [ofB] using h
 have := List.all_eq_true.1 hB (bsI code) (by simpa using h1.1)
 have e : ofT code = Vb (bsI code) := by unfold ofT; rw [if_pos h]
 rw [e]; exact hP _ this
theorem Gd {code : Int} (h : ofB code = true) (hi : (ofS code).Items = true) : ((ofS code).Sized = true → ((ofS code).Width = 1 ∨ (ofS code).Width = 4) ∧ 22 ≤ (ofS code).Kind ∧ (ofS code).Kind ≤ 24) ∧ ((ofS code).Sized = false → (ofS code).Kind = 25 ∨ (ofS code).Kind = 22) :=
 Qr3 (P := fun t => t.2.2.2.2 = true → (t.2.2.2.1 = true → (t.2.2.1 = 1 ∨ t.2.2.1 = 4) ∧ 22 ≤ t.2.1 ∧ t.2.1 ≤ 24) ∧ (t.2.2.2.1 = false → t.2.1 = 25 ∨ t.2.1 = 22)) Qka (fun k hk h1 => by
  simp only [Qop, h1, Bool.not_true, Bool.false_or] at hk
  refine ⟨fun h2 => ?_, fun h2 => ?_⟩
  ·rw [h2] at hk; simpa using hk
  ·rw [h2] at hk; simpa using hk) h hi
end
end Go.Av
namespace Go.Av
noncomputable section
open Go.Proofs
set_option maxRecDepth 100000
end
end Go.Av
namespace Go.Av
noncomputable section
open Go.Proofs
set_option maxRecDepth 100000
theorem Qlm (n m k : Nat) : n &&& (m * 2 ^ k) = ((n / 2 ^ k) &&& m) * 2 ^ k := by
 apply Nat.eq_of_testBit_eq
 intro i
 rw [Nat.testBit_and, Nat.testBit_mul_two_pow, Nat.testBit_mul_two_pow, Nat.testBit_and, Nat.testBit_div_two_pow]
 by_cases h : k ≤ i
 ·simp [h]
 ·simp [h]
theorem Qpn (n k : Nat) (h : k ≤ 64) : Q2n .u64 (n : Int) (k : Int) = ((n / 2 ^ k : Nat) : Int) := by
 have e : min (k : Int).toNat IntKind.u64.bits = k := by simp [IntKind.bits]; omega
 simp only [Q2n, e]
 rw [Int.fdiv_eq_ediv_of_nonneg _ (by exact_mod_cast Nat.zero_le _)]
 push_cast; rfl
theorem Qsw (n e k : Nat) (hn : n < 18446744073709551616) (hk : k ≤ 63) (he : (2 ^ e - 1) * 2 ^ k < 18446744073709551616) (he2 : 2 ^ e - 1 < 18446744073709551616) :
  (Gs .u64 (Q2n .u64 (n : Int) (k : Int)) ((2 ^ e - 1 : Nat) : Int) = ((2 ^ e - 1 : Nat) : Int)) = (Gs .u64 (n : Int) (((2 ^ e - 1) * 2 ^ k : Nat) : Int) = (((2 ^ e - 1) * 2 ^ k : Nat) : Int)) := by
 rw [Qpn n k (by omega), Q2x _ _ (Nat.lt_of_le_of_lt (Nat.div_le_self _ _) hn) he2, Q2x _ _ hn he, Qlm]
 apply propext
 have hp : 0 < 2 ^ k := Nat.two_pow_pos k
 constructor
 ·intro h
  have := Int.ofNat.inj h
  rw [this]
 ·intro h
  have := Nat.eq_of_mul_eq_mul_right hp (Int.ofNat.inj h)
  rw [this]
theorem Qrw (n : Nat) (hn : n < 18446744073709551616) : (Gs .u64 (n : Int) 8388607 ≠ 0) = (Q0z .u64 (n : Int) 41 ≠ 0) := by
 have e : Q0z .u64 (n : Int) 41 = ((n : Int) * 2199023255552) % 18446744073709551616 := by
  show IntKind.u64.wrap _ = _
  rw [Qqn]; rfl
 rw [show (8388607 : Int) = ((8388607 : Nat) : Int) from rfl, Q2x _ _ hn (by decide), e, show (8388607 : Nat) = 2 ^ 23 - 1 from rfl, Nat.and_two_pow_sub_one_eq_mod]
 apply propext; omega
theorem Qsh (n : Nat) (hn : n < 18446744073709551616) : (Gs .u64 (n : Int) 4503599627370495 ≠ 0) = (Q0z .u64 (n : Int) 12 ≠ 0) := by
 have e : Q0z .u64 (n : Int) 12 = ((n : Int) * 4096) % 18446744073709551616 := by
  show IntKind.u64.wrap _ = _
  rw [Qqn]; rfl
 rw [show (4503599627370495 : Int) = ((4503599627370495 : Nat) : Int) from rfl, Q2x _ _ hn (by decide), e, show (4503599627370495 : Nat) = 2 ^ 52 - 1 from rfl, Nat.and_two_pow_sub_one_eq_mod]
 apply propext; omega
theorem Qbb (N : Nat) (v : Q0) (h : okU v.N') : Xq N v = some (nnS v) := by
 rw [← Qqv 0 v]
 obtain ⟨h0, h1⟩ := h
 obtain ⟨n, hn⟩ := Int.eq_ofNat_of_zero_le h0
 rw [hn] at h1
 have h1 : n < 18446744073709551616 := by omega
 have e1 := Qsw n 8 23 h1 (by decide) (by decide) (by decide)
 have e2 := Qsw n 11 52 h1 (by decide) (by decide) (by decide)
 rw [show ((2 ^ 8 - 1 : Nat) : Int) = 255 from rfl, show (((2 ^ 8 - 1) * 2 ^ 23 : Nat) : Int) = 2139095040 from rfl, show ((23 : Nat) : Int) = 23 from rfl] at e1
 rw [show ((2 ^ 11 - 1 : Nat) : Int) = 2047 from rfl, show (((2 ^ 11 - 1) * 2 ^ 52 : Nat) : Int) = 9218868437227405312 from rfl, show ((52 : Nat) : Int) = 52 from rfl] at e2
 have l1 : Q8 .neq (Gs .u64 (n : Int) 8388607) 0 = Q8 .neq (Q0z .u64 (n : Int) 41) 0 := by
  rw [Bool.eq_iff_iff, Jf, Jf, Qrw n h1]
 have l2 : Q8 .neq (Gs .u64 (n : Int) 4503599627370495) 0 = Q8 .neq (Q0z .u64 (n : Int) 12) 0 := by
  rw [Bool.eq_iff_iff, Jf, Jf, Qsh n h1]
 unfold Xq Z3
 simp only [hn, l1, l2, Q7, V7, e1, e2]
 by_cases k1 : v.Kind = 11
 ·have k2 : ¬ v.Kind = 12 := by omega
  simp only [if_pos k1, if_neg k2]
  split
  ·split
   ·rename_i h; rw [h]
   ·rename_i h
    cases hc : Q8 .neq (Q0z .u64 (n : Int) 41) 0 with
    | true => exact absurd hc h
    | false => rfl
  ·rfl
 ·simp only [if_neg k1]
theorem Q9x {R : Q0 → Q0 → Option Bool} {N : Nat} {a b : Q0} (hlen : a.Items.length = b.Items.length) (hb : a.Items.length < 4611686018427387904)
  (hR : ∀ y ∈ a.Items, ∀ z ∈ b.Items, R y z = some (Q14 y z)) : ∀ (n i : Nat), i ≤ a.Items.length → a.Items.length - i < n →
  Y7 R N a b n (i : Int) = some (Q0m (a.Items.drop i) (b.Items.drop i)) ∧ Yd R N a b n (i : Int) = some (Q0m (a.Items.drop i) (b.Items.drop i))
 | 0, i, _, h => by omega
 | n + 1, i, h1, h2 => by
  simp only [Y7, Yd, Q7, Xx, Qo]
  by_cases hi : i < a.Items.length
  ·rw [if_pos (by omega), if_pos (by omega), Zu, Zu, List.getElem?_eq_getElem hi, List.getElem?_eq_getElem (show i < b.Items.length by omega)]
   simp only [Option.bind_some, hR _ (List.getElem_mem hi) _ (List.getElem_mem (show i < b.Items.length by omega))]
   rw [Qn _ (by omega)]
   obtain ⟨ih1, ih2⟩ := Q9x (N := N) hlen hb hR n (i + 1) (by omega) (by omega)
   rw [List.drop_eq_getElem_cons hi, List.drop_eq_getElem_cons (show i < b.Items.length by omega), Q0m]
   cases Q14 a.Items[i] b.Items[i] with
   | true =>
    simp only [Bool.not_true, Bool.false_eq_true, if_false, Bool.true_and]
    exact ⟨by exact_mod_cast ih1, by exact_mod_cast ih2⟩
   | false => simp
  ·rw [if_neg (by omega), if_neg (by omega), List.drop_of_length_le (by omega)]
   simp [Q0m]
theorem Q8l : ∀ (N : Nat) (a b : Q0), Fine a → Fine b → a.sz < N → a.sz < 1000000000 → Yk N a b = some (Q14 a b)
 | 0, a, b, _, _, h, _ => by have := a.sz_eq; omega
 | N + 1, a, b, fa, fb, h, h2 => by
  have hs := a.sz_eq
  have hl := Q0.szs_len a.Items
  rw [Q93]
  simp only [Yk, Vs, Q7, Jf, Q10, Qo, Qbb N a fa.num, Qbb N b fb.num, Option.bind_some]
  by_cases e1 : a.Kind = b.Kind
  ·by_cases e3 : a.Text = b.Text
   ·by_cases e4 : a.Items.length = b.Items.length
    ·simp only [if_neg (show ¬ (a.Kind ≠ b.Kind) by simp [e1]), if_neg (show ¬ (a.Text ≠ b.Text) by simp [e3]), if_neg (show ¬ ((a.Items.length : Int) ≠ b.Items.length) by simp [e4])]
     obtain ⟨i1, i2⟩ := Q9x (N := N) (R := Yk N) e4 (by omega) (fun y hy z hz => Q8l N y z (fa.items y hy) (fb.items z hz) (by have := Q0.szs_mem _ y hy; omega) (by have := Q0.szs_mem _ y hy; omega)) N 0 (by omega) (by omega)
     rw [show ((0 : Nat) : Int) = 0 from rfl] at i1 i2
     rw [i1, i2, List.drop_zero, List.drop_zero]
     simp only [e1, e3, e4, decide_true, Bool.true_and]
     by_cases e2 : a.N' = b.N'
     ·simp [e2]
     ·simp only [e2, ne_eq, not_false_eq_true, if_true, decide_false, Bool.false_or]
      cases nnS a <;> cases nnS b <;> simp
    ·simp only [if_neg (show ¬ (a.Kind ≠ b.Kind) by simp [e1]), if_neg (show ¬ (a.Text ≠ b.Text) by simp [e3]), if_pos (show ((a.Items.length : Int) ≠ b.Items.length) by omega)]
     simp [e4]
     repeat' split
     all_goals rfl
   ·simp only [if_neg (show ¬ (a.Kind ≠ b.Kind) by simp [e1]), if_pos (show (a.Text ≠ b.Text) from e3)]
    simp [e3]
    repeat' split
    all_goals rfl
  ·rw [if_pos (by simpa using e1)]
   simp [e1]
end
end Go.Av
namespace Go.Av
noncomputable section
open Go.Proofs
set_option maxRecDepth 100000
open Classical in
theorem Qhp {N : Nat} {v : Q0} (hf : Fine v) (hb : v.sz < 1000000000) (hN : v.sz < N) {k0 : Int → Option Bool} {i : Nat} (hi : i < v.Items.length) (i2 : i % 2 = 0) : ∀ (n k : Nat), i - k < n → k % 2 = 0 → k ≤ i →
  Yb N k0 v.Items (i : Int) n (k : Int) = if ∃ j, k ≤ j ∧ j < i ∧ j % 2 = 0 ∧ AL v i j then some true else k0 ((i + 2 : Nat) : Int)
 | 0, k, h, _, _ => by omega
 | n + 1, k, h, hk, hki => by
  have hs := v.sz_eq
  have hl := Q0.szs_len v.Items
  simp only [Yb, Q7, Xx, Zu]
  by_cases hlt : k < i
  ·rw [if_pos (by omega), List.getElem?_eq_getElem hi, List.getElem?_eq_getElem (show k < v.Items.length by omega)]
   simp only [Option.bind_some]
   have hsz := Q0.szs_mem _ _ (List.getElem_mem hi)
   rw [Q8l N _ _ (hf.items _ (List.getElem_mem hi)) (hf.items _ (List.getElem_mem (show k < v.Items.length by omega))) (by omega) (by omega)]
   simp only [Option.bind_some]
   cases hal : Q14 v.Items[i] v.Items[k] with
   | true =>
    rw [if_pos rfl, if_pos ⟨k, Nat.le_refl _, hlt, hk, _, _, List.getElem?_eq_getElem hi, List.getElem?_eq_getElem (by omega), hal⟩]
   | false =>
    rw [if_neg (by simp), Qn _ (by omega)]
    have := Qhp (k0 := k0) hf hb hN hi i2 n (k + 2) (by omega) (by omega) (by omega)
    rw [show ((k : Int) + 2) = ((k + 2 : Nat) : Int) by push_cast; rfl, this]
    by_cases hx : ∃ j, k + 2 ≤ j ∧ j < i ∧ j % 2 = 0 ∧ AL v i j
    ·rw [if_pos hx]
     obtain ⟨j, j1, j2, j3, j4⟩ := hx
     rw [if_pos ⟨j, by omega, j2, j3, j4⟩]
    ·rw [if_neg hx, if_neg]
     rintro ⟨j, j1, j2, j3, j4⟩
     by_cases hjk : j = k
     ·subst hjk
      obtain ⟨x, y, x1, y1, z1⟩ := j4
      rw [List.getElem?_eq_getElem hi] at x1
      rw [List.getElem?_eq_getElem (by omega)] at y1
      cases x1; cases y1
      rw [hal] at z1; cases z1
     ·exact hx ⟨j, by omega, j2, j3, j4⟩
  ·rw [if_neg (by omega), Qn _ (by omega), if_neg (by rintro ⟨j, j1, j2, _⟩; omega)]
   push_cast; rfl
open Classical in
theorem Qh0 {N : Nat} {v : Q0} (hf : Fine v) (hb : v.sz < 1000000000) (hN : v.sz < N) : ∀ (n i : Nat), v.Items.length - i < n → i % 2 = 0 → i ≤ v.Items.length + 2 →
  Z7 N v.Items n (i : Int) = some (if ∃ i' j, i ≤ i' ∧ i' % 2 = 0 ∧ i' < v.Items.length ∧ j < i' ∧ j % 2 = 0 ∧ AL v i' j then true else false)
 | 0, i, h, _, _ => by omega
 | n + 1, i, h, hi, hle => by
  have hs := v.sz_eq
  have hl := Q0.szs_len v.Items
  simp only [Z7, Q7, Xx, Qo]
  by_cases hlt : i < v.Items.length
  ·rw [if_pos (by omega)]
   have h1 := Qhp (N := N) (k0 := Z7 N v.Items n) hf hb hN hlt hi N 0 (by omega) (by omega) (by omega)
   rw [show ((0 : Nat) : Int) = 0 from rfl] at h1
   rw [h1]
   by_cases hx : ∃ j, 0 ≤ j ∧ j < i ∧ j % 2 = 0 ∧ AL v i j
   ·rw [if_pos hx]
    obtain ⟨j, _, j2, j3, j4⟩ := hx
    rw [if_pos ⟨i, j, Nat.le_refl _, hi, hlt, j2, j3, j4⟩]
   ·rw [if_neg hx, Qh0 hf hb hN n (i + 2) (by omega) (by omega) (by omega)]
    by_cases hy : ∃ i' j, i + 2 ≤ i' ∧ i' % 2 = 0 ∧ i' < v.Items.length ∧ j < i' ∧ j % 2 = 0 ∧ AL v i' j
    ·rw [if_pos hy]
     obtain ⟨i', j, a1, a2, a3⟩ := hy
     rw [if_pos ⟨i', j, by omega, a2, a3⟩]
    ·rw [if_neg hy, if_neg]
     rintro ⟨i', j, a1, a2, a3, a4, a5, a6⟩
     by_cases he : i' = i
     ·subst he; exact hx ⟨j, by omega, a4, a5, a6⟩
     ·exact hy ⟨i', j, by omega, a2, a3, a4, a5, a6⟩
  ·rw [if_neg (by omega), if_neg]
   rintro ⟨i', j, a1, a2, a3, _⟩; omega
theorem Qn7 (v : Q0) : Q3q v = 0 ∨ Q3q v = 16 := by
 unfold Q3q
 split
 ·exact .inl rfl
 ·split
  ·exact .inr rfl
  ·exact .inl rfl
open Classical in
theorem Qom (N : Nat) (v : Q0) (hf : Fine v) (hk : v.Kind = 23) (hb : v.sz < 1000000000) (hN : v.sz + 5 < N) : Wo N v.Items = some (decide (Q3q v = 16)) := by
 have hs := v.sz_eq
 have hl := Q0.szs_len v.Items
 have h0 := Qh0 hf hb (show v.sz < N by omega) N 0 (by omega) (by omega) (by omega)
 rw [show ((0 : Nat) : Int) = 0 from rfl] at h0
 unfold Wo
 rw [h0]
 have hkey : Q3q v = 16 ↔ ∃ i j, 2 ≤ i ∧ i % 2 = 0 ∧ i < v.Items.length ∧ j < i ∧ j % 2 = 0 ∧ AL v i j := by
  unfold Q3q
  rw [if_neg (fun h => h hk)]
  split
  ·rename_i hx; exact ⟨fun _ => hx, fun _ => rfl⟩
  ·rename_i hx; exact ⟨fun h => (by cases h), fun h => absurd h hx⟩
 by_cases hx : ∃ i' j, 0 ≤ i' ∧ i' % 2 = 0 ∧ i' < v.Items.length ∧ j < i' ∧ j % 2 = 0 ∧ AL v i' j
 ·rw [if_pos hx]
  obtain ⟨i, j, a1, a2, a3, a4, a5, a6⟩ := hx
  rw [decide_eq_true (hkey.2 ⟨i, j, by omega, a2, a3, a4, a5, a6⟩)]
 ·rw [if_neg hx, decide_eq_false]
  rw [hkey]
  rintro ⟨i, j, a1, a2, a3, a4, a5, a6⟩
  exact hx ⟨i, j, by omega, a2, a3, a4, a5, a6⟩
theorem Qey (N : Nat) (v : Q0) : Xz N v = some (Jh v) := by
 rw [← Qah v]
 unfold Xz Q4y
 simp only [Q7, V7, Jf, Q10]
 by_cases h1 : v.Text ≠ []
 ·rw [if_pos h1, if_pos h1]
 rw [if_neg h1, if_neg h1]
 by_cases h2 : v.Kind = 24
 ·have e : Q8 .eql v.Kind 24 = true := by rw [V7]; exact h2
  simp only [e, if_pos h2, Bool.not_true, Bool.false_eq_true, if_false]
 ·have e : Q8 .eql v.Kind 24 = false := Bool.eq_false_iff.2 (by rw [ne_eq, V7]; exact h2)
  simp only [e, if_neg h2, Bool.not_false, if_true]
  split
  ·rfl
  ·split
   ·rfl
   ·by_cases h3 : v.Kind = 23
    ·rw [if_neg (by simp [h3]), if_pos h3]
    ·rw [if_pos h3, if_neg h3]
theorem Q7b {R : Q0 → Int → Option Int} {N : Nat} {v : Q0} {m : Int} (hf : Fine v) (hb : v.sz < 1000000000) (hN : v.sz + 5 < N) (hm : 1 ≤ m ∧ m ≤ 32) (hR : ∀ y ∈ v.Items, R y (m - 1) = some (W1 y (m - 1))) : ∀ (n i : Nat), i ≤ v.Items.length → v.Items.length - i < n →
  Zm R N v m n (i : Int) = some (Jg (v.Items.drop i) v.Kind v.N' (m - 1) (Q3q v))
 | 0, i, _, h => by omega
 | n + 1, i, hi, hn => by
  have hs := v.sz_eq
  have hl := Q0.szs_len v.Items
  simp only [Zm, Q7, Xx, V7, Jf, Qo, Zu, Qn (m - 1) (show _ by omega)]
  by_cases h : i < v.Items.length
  ·rw [if_pos (by omega), List.getElem?_eq_getElem h, List.drop_eq_getElem_cons h, Jg]
   simp only [Option.bind_some, hR _ (List.getElem_mem h)]
   rw [Qn _ (by omega)]
   have ih := Q7b (N := N) hf hb hN hm hR n (i + 1) (by omega) (by omega)
   rw [show ((i : Int) + 1) = ((i + 1 : Nat) : Int) by push_cast; rfl, ih]
   by_cases h24 : v.Kind = 24
   ·rw [if_pos h24]
    by_cases hw : IntKind.u64.wrap v.Items[i].Kind ≠ v.N'
    ·rw [if_pos hw, if_pos ⟨h24, hw⟩]
    ·rw [if_neg hw, if_neg (show ¬ (v.Kind = 24 ∧ IntKind.u64.wrap v.Items[i].Kind ≠ v.N') from fun hh => hw hh.2)]
     by_cases hc : W1 v.Items[i] (m - 1) ≠ 0
     ·rw [if_pos hc, if_pos hc]
     ·rw [if_neg hc, if_neg hc]
   ·rw [if_neg h24, if_neg (show ¬ (v.Kind = 24 ∧ IntKind.u64.wrap v.Items[i].Kind ≠ v.N') from fun hh => h24 hh.1)]
    by_cases hc : W1 v.Items[i] (m - 1) ≠ 0
    ·rw [if_pos hc, if_pos hc]
    ·rw [if_neg hc, if_neg hc]
  ·rw [if_neg (by omega), List.drop_of_length_le (by omega), Jg]
   by_cases h23 : v.Kind = 23
   ·rw [if_pos h23, Qom N v hf h23 hb hN]
    simp only [Option.bind_some]
    rcases Qn7 v with h | h
    ·rw [h]; rfl
    ·rw [h]; rfl
   ·rw [if_neg h23]
    unfold Q3q
    rw [if_pos h23]
theorem Q73 : ∀ (N : Nat) (v : Q0) (m : Int), Fine v → v.sz + 300050 < N → v.sz < 1000000000 → 0 ≤ m → m ≤ 32 → Yf N v m = some (W1 v m)
 | 0, v, m, _, h, _, _, _ => by omega
 | N + 1, v, m, hv, h, h2, m0, m1 => by
  have hs := v.sz_eq
  have hl := Q0.szs_len v.Items
  rw [Q3t]
  have ht := hv.text
  simp only [Yf, Vq, Q7, Xx, Q7r, Q50, V7, Qo, Q55 N v hv.num (show v.Text.length < N by omega) (by omega), Qey, Option.bind_some]
  split
  ·rfl
  rename_i h1
  by_cases h25 : v.Kind > 25
  ·rw [if_pos h25, if_pos (show 25 < v.Kind from h25)]
  rw [if_neg h25, if_neg (show ¬ 25 < v.Kind from h25)]
  split
  ·rfl
  by_cases hm0 : m = 0
  ·rw [if_pos hm0, if_pos hm0]
  rw [if_neg hm0, if_neg hm0]
  cases Jh v with
  | false => rfl
  | true =>
   simp only [Bool.not_true, Bool.false_eq_true, if_false, Bool.true_eq_false]
   by_cases hlen : 1000 < v.Items.length
   ·rw [if_pos (by omega), if_pos hlen]
   rw [if_neg (by omega), if_neg hlen]
   have := Q7b (R := Yf N) (N := N) (v := v) (m := m) hv h2 (by omega) ⟨by omega, m1⟩ (fun y hy => Q73 N y (m - 1) (hv.items y hy) (by have := Q0.szs_mem _ y hy; omega) (by have := Q0.szs_mem _ y hy; omega) (by omega) (by omega)) N 0 (by omega) (by omega)
   exact this
theorem Qek (N : Nat) (v : Q0) (m : Int) (hv : Fine v) (h : v.sz + 300050 < N) (h2 : v.sz < 1000000000) : Wm N v m = some (Xu v m) := by
 simp only [Wm, Q7, Xx, Q7r, Xu]
 by_cases h1 : m < 0
 ·rw [if_pos h1, if_pos (show Q4n m = false from decide_eq_false (by omega))]
 by_cases h3 : m > 32
 ·rw [if_neg h1, if_pos h3, if_pos (show Q4n m = false from decide_eq_false (by omega))]
 rw [if_neg h1, if_neg h3, if_neg (show ¬ (Q4n m = false) by rw [show Q4n m = true from decide_eq_true (by omega)]; simp), Q73 N v m hv h h2 (by omega) (by omega)]; rfl
end
end Go.Av
namespace Go.Av
noncomputable section
open Go.Proofs
set_option maxRecDepth 100000
theorem Qbg : ∀ (l : List Q0) (k n m : Int), (∀ x ∈ l, W1 x m = 0 ∧ (k = 24 → IntKind.u64.wrap x.Kind = n)) → Jg l k n m 0 = 0
 | [], _, _, _, _ => by rw [Jg]
 | x :: l, k, n, m, h => by
  obtain ⟨h1, h2⟩ := h x (by simp)
  rw [Jg, if_neg (fun hh => hh.2 (h2 hh.1)), if_neg (by simp [h1])]
  exact Qbg l k n m (fun y hy => h y (by simp [hy]))
theorem Qjv {k n : Int} {l : List Q0} (h24 : k = 24 → 1 ≤ n ∧ n ≤ 24) (h0 : k ≠ 24 → n = 0) (h25 : k = 25 → l.length = 2) (h23 : k = 23 → l.length % 2 = 0) : Jh ⟨k, n, [], l⟩ = true := by
 unfold Jh Q4y
 simp only [Q7, Q10, V7, Jf, Qa6, Qo]
 rw [if_neg (by simp)]
 by_cases e : k = 24
 ·rw [if_pos e, if_pos (h24 e).1]
  have := (h24 e).2
  simp [Q50]; exact this
 ·rw [if_neg e, if_neg (by simp [h0 e])]
  by_cases e5 : k = 25
  ·rw [if_pos e5]
   simp [V7, h25 e5]
  ·rw [if_neg e5]
   by_cases e3 : k = 23
   ·rw [if_pos e3]
    have := h23 e3
    simp [V7, Int.tmod_eq_emod_of_nonneg]; omega
   ·rw [if_neg e3]; rfl
end
end Go.Av
namespace Go.Av
noncomputable section
open Go.Proofs
set_option maxRecDepth 100000
end
end Go.Av
namespace Go.Av
noncomputable section
open Go.Proofs
set_option maxRecDepth 100000
end
end Go.Av
namespace Go.Av
noncomputable section
open Go.Proofs
set_option maxRecDepth 100000
def Q2k (code : Int) (v : Q0) (b : List UInt8) : Bool :=
 if (ofS code).Items = false then Q0v code v else if (ofS code).Width = 0 then decide (v.Items.length = 0)
 else decide ((ofS code).Width = 4 ∨ (v.Items.length < 256 ∧ b.length + 1 < 256))
def W0 (code : Int) (v : Q0) (b : List UInt8) : List UInt8 :=
 if (ofS code).Items = false then (Qmp code v).1 else if (ofS code).Sized = false then []
 else Uk (b.length + (ofS code).Width.toNat) (ofS code).Width.toNat ++ (Uk v.Items.length (ofS code).Width.toNat ++ b)
def Qj9 (c : Int) (l : List (Q0 × List UInt8)) : Bool := l.all fun p => Q2k c p.1 p.2
def Q0b (k : Int) (l : List (Q0 × List UInt8)) : Int := ((Vl k).find? (fun c => Qj9 c l)).getD 0
def Q1h (c : Int) : UInt8 := UInt8.ofNat c.toNat
def Qv0 (n : Int) (l : List (Q0 × List UInt8)) : List UInt8 := Q1h (Q0b n l) :: (l.map fun p => W0 (Q0b n l) p.1 p.2).flatten
def Qti (k n : Int) (is : List Q0) (l : List (List UInt8 × List UInt8)) : List UInt8 := if k = 24 then Qv0 n (is.zip (l.map (·.1))) else if k = 25 then [] else (l.map (·.2)).flatten
def Qu3 (v : Q0) (b : List UInt8) (l : List (List UInt8 × List UInt8)) : List UInt8 := if v.Kind = 25 then 0 :: (l.map (·.2)).flatten else Q1h (Q0b v.Kind [(v, b)]) :: W0 (Q0b v.Kind [(v, b)]) v b
mutual
def Q0.enc : Q0 → List UInt8 × List UInt8
 | .mk k n t is => (Qti k n is (Q0.encs is), Qu3 ⟨k, n, t, is⟩ (Qti k n is (Q0.encs is)) (Q0.encs is))
def Q0.encs : List Q0 → List (List UInt8 × List UInt8)
 | [] => []
 | v :: l => v.enc :: Q0.encs l
end
def Q0.inn (v : Q0) : List UInt8 := v.enc.1
def Q0.byt (v : Q0) : List UInt8 := v.enc.2
theorem Qfa : ∀ l, Q0.encs l = l.map Q0.enc
 | [] => rfl
 | v :: l => by rw [Q0.encs, Qfa l]; rfl
def Q0.prs (v : Q0) : List (Q0 × List UInt8) := v.Items.map fun x => (x, x.inn)
def Q0.elm (v : Q0) : Int := Q0b v.N' v.prs
def Q0.cod (v : Q0) : Int := Q0b v.Kind [(v, v.inn)]
theorem Qpx (l : List Q0) : l.zip ((l.map Q0.enc).map (·.1)) = l.map fun x => (x, x.inn) := by
 induction l with
 | nil => rfl
 | cons x l ih => simp only [List.map_cons, List.zip_cons_cons, ih]; rfl
theorem Q9s (v : Q0) : v.inn = if v.Kind = 24 then Q1h v.elm :: (v.Items.map fun x => W0 v.elm x x.inn).flatten else if v.Kind = 25 then [] else (v.Items.map Q0.byt).flatten := by
 obtain ⟨k, n, t, is⟩ := v
 unfold Q0.inn
 rw [Q0.enc, Qfa]
 simp only [Qti, Qpx, Q0.elm, Q0.prs, Qv0]
 simp only [List.map_map]
 rfl
theorem Qgj (v : Q0) : v.byt = if v.Kind = 25 then 0 :: (v.Items.map Q0.byt).flatten else Q1h v.cod :: W0 v.cod v v.inn := by
 obtain ⟨k, n, t, is⟩ := v
 unfold Q0.byt Q0.cod Q0.inn
 rw [Q0.enc, Qfa]
 simp only [Qu3, List.map_map]
 rfl
theorem Qhm {k : Int} {l : List (Q0 × List UInt8)} (h : ∃ c ∈ Vl k, Qj9 c l = true) : Q0b k l ∈ Vl k ∧ Qj9 (Q0b k l) l = true := by
 unfold Q0b
 cases hf : (Vl k).find? (fun c => Qj9 c l) with
 | some c => exact ⟨List.mem_of_find?_eq_some hf, by simpa using List.find?_some hf⟩
 | none =>
  obtain ⟨c, h1, h2⟩ := h
  have := List.find?_eq_none.1 hf c h1
  exact absurd h2 this
def Q01 (k : Int) : Int := (Vl k).getLastD 0
def Qlp (k : Nat) : Bool := !(decide (1 ≤ k)) || ((Vl k).contains (Q01 k) && ((k == 25) || (if (ofS (Q01 k)).Items then decide ((ofS (Q01 k)).Width = 4) && (ofS (Q01 k)).Sized else if (ofS (Q01 k)).Sized then decide ((ofS (Q01 k)).Width = 4) else decide ((ofS (Q01 k)).Code ≠ 65) && (decide ((ofS (Q01 k)).Width = 0 ∧ (Uo k).1 = 0 ∧ (Uo k).2 = false) || (decide ((ofS (Q01 k)).Width = 1) && decide (8 = (Uo k).1 ∨ (Uo k).1 = 1 ∧ (Uo k).2 = false)) || decide (1 < (ofS (Q01 k)).Width)))))
theorem Qkl : ((List.range 26).all Qlp) = true := by decide +kernel
theorem Q8u {k : Int} (h : 1 ≤ k ∧ k ≤ 25) : Qlp k.toNat = true := List.all_eq_true.1 Qkl k.toNat (by simp; omega)
theorem Qkt {v : Q0} (hn : okU v.N') (h : Wd v = 0) : Q01 v.Kind ∈ Vl v.Kind ∧ Q0v (Q01 v.Kind) v = true := by
 obtain ⟨c1, c2, c3, c4, c5, c6, c7⟩ := Uz h
 have hb := Q8u (k := v.Kind) (by omega)
 unfold Qlp at hb
 rw [show ((v.Kind.toNat : Nat) : Int) = v.Kind by omega] at hb
 simp only [Bool.or_eq_true, Bool.not_eq_true', decide_eq_false_iff_not, Bool.and_eq_true, List.contains_iff_mem, beq_iff_eq] at hb
 rcases hb with hb | ⟨hm, hb⟩
 ·omega
 ·refine ⟨hm, ?_⟩
  obtain ⟨d1, d2, d3⟩ := Q1c _ _ hm
  have hw := Qfe _ d1
  have hi := Gk hw (by omega)
  rcases hb with hb | hb
  ·omega
  rw [hi] at hb
  simp only [Bool.false_eq_true, if_false] at hb
  have hs : Q36 (ofS (Q01 v.Kind)) v = true := by
   unfold Q36
   by_cases hz : (ofS (Q01 v.Kind)).Sized = true
   ·rw [if_pos hz] at hb
    have h4 : (ofS (Q01 v.Kind)).Width = 4 := by simpa using hb
    obtain ⟨_, _, _, h65⟩ := hw.sized hi hz
    rw [if_neg h65, if_pos hz]
    simp [h4]
   ·rw [if_neg hz] at hb
    simp only [Bool.and_eq_true, Bool.or_eq_true, decide_eq_true_eq] at hb
    obtain ⟨h65, hb⟩ := hb
    rw [if_neg h65, if_neg hz]
    have hnum := c3
    unfold Q51 at hnum
    simp only [Bool.and_eq_true] at hnum
    have hf := hnum.1
    rcases hb with (⟨w0, b0, b1⟩ | ⟨w1, hb⟩) | w2
    ·rw [if_pos w0]
     rw [b0, b1] at hf
     unfold Js at hf
     simp at hf ⊢
     have := hn.1
     omega
    ·rw [if_neg (by omega), if_pos w1, d3]
     rcases hb with hb | ⟨b1, b2⟩
     ·rw [← hb] at hf; exact hf
     ·rw [b1, b2] at hf
      rw [b2]
      unfold Js at hf ⊢
      simp at hf ⊢
      omega
    ·rw [if_neg (by omega), if_neg (by omega)]
  unfold Q0v
  simp [d1, d3, h, hs]
end
end Go.Av
namespace Go.Av
noncomputable section
open Go.Proofs
set_option maxRecDepth 100000
theorem Q8r : ∀ (l : List Q0) (k n m e : Int), Jg l k n m e = 0 → e = 0 ∧ ∀ x ∈ l, W1 x m = 0 ∧ (k = 24 → IntKind.u64.wrap x.Kind = n)
 | [], _, _, _, _, h => ⟨by simpa [Jg] using h, fun x hx => by cases hx⟩
 | x :: l, k, n, m, e, h => by
  rw [Jg] at h
  split at h
  ·cases h
  ·rename_i h1
   split at h
   ·rename_i h2; exact absurd h h2
   ·rename_i h2
    obtain ⟨i1, i2⟩ := Q8r l k n m e h
    refine ⟨i1, fun y hy => ?_⟩
    rcases List.mem_cons.1 hy with rfl | hy
    ·exact ⟨Classical.byContradiction h2, fun hk => Classical.byContradiction fun hn => h1 ⟨hk, hn⟩⟩
    ·exact i2 y hy
theorem Q0a {v : Q0} (h : Jh v = true) : v.Text = [] ∧ (v.Kind = 24 → 1 ≤ v.N' ∧ v.N' ≤ 24) ∧ (v.Kind ≠ 24 → v.N' = 0) ∧ (v.Kind = 25 → v.Items.length = 2) ∧ (v.Kind = 23 → v.Items.length % 2 = 0) := by
 unfold Jh Q4y at h
 simp only [Q7, Q10, V7, Jf, Qa6, Qo] at h
 split at h
 ·cases h
 ·rename_i h1
  have h1 : v.Text = [] := by simpa using h1
  refine ⟨h1, ?_⟩
  split at h
  ·rename_i h2
   split at h
   ·rename_i h3
    have h4 : v.N' ≤ 24 := by
     have : Q8 .leq v.N' 24 = true := by simpa using h
     rw [Q50] at this; exact this
    exact ⟨fun _ => ⟨h3, h4⟩, fun h => absurd h2 h, fun h => by omega, fun h => by omega⟩
   ·cases h
  ·rename_i h2
   split at h
   ·cases h
   ·rename_i h3
    have h3 : v.N' = 0 := by simpa using h3
    refine ⟨fun h => absurd h h2, fun _ => h3, ?_, ?_⟩
    ·intro h5
     rw [if_pos h5] at h
     have : Q8 .eql (v.Items.length : Int) 2 = true := by simpa using h
     rw [V7] at this; omega
    ·intro h5
     rw [if_neg (by omega), if_pos h5] at h
     have : Q8 .eql ((v.Items.length : Int).tmod 2) 0 = true := by simpa using h
     rw [V7, Int.tmod_eq_emod_of_nonneg (by omega)] at this; omega
theorem Ua {v : Q0} {m : Int} (h : W1 v m = 0) : (1 ≤ v.Kind ∧ v.Kind ≤ 21 ∧ Wd v = 0) ∨
  (22 ≤ v.Kind ∧ v.Kind ≤ 25 ∧ m ≠ 0 ∧ Jh v = true ∧ v.Items.length ≤ 1000 ∧ Q3q v = 0 ∧ ∀ x ∈ v.Items, W1 x (m - 1) = 0 ∧ (v.Kind = 24 → IntKind.u64.wrap x.Kind = v.N')) := by
 rw [Q3t] at h
 split at h
 ·cases h
 ·split at h
  ·cases h
  ·split at h
   ·exact .inl ⟨by omega, by omega, h⟩
   ·split at h
    ·cases h
    ·split at h
     ·cases h
     ·rename_i hs
      split at h
      ·cases h
      ·obtain ⟨h1, h2⟩ := Q8r _ _ _ _ _ h
       exact .inr ⟨by omega, by omega, by assumption, by simpa using hs, by omega, h1, h2⟩
theorem Q4f {v : Q0} {m : Int} (h : W1 v m = 0) : 1 ≤ v.Kind ∧ v.Kind ≤ 25 := by
 rcases Ua h with ⟨h1, h2, _⟩ | ⟨h1, h2, _⟩ <;> omega
theorem Q3b {v : Q0} {m : Int} (h : W1 v m = 0) : IntKind.u64.wrap v.Kind = v.Kind := by
 have := Q4f h
 rw [Qqn]; omega
theorem Qjd {k : Int} (h : 22 ≤ k ∧ k ≤ 24) : Q01 k ∈ Vl k ∧ (ofS (Q01 k)).Items = true ∧ (ofS (Q01 k)).Width = 4 := by
 have hb := Q8u (k := k) (by omega)
 unfold Qlp at hb
 rw [show ((k.toNat : Nat) : Int) = k by omega] at hb
 simp only [Bool.or_eq_true, Bool.not_eq_true', decide_eq_false_iff_not, Bool.and_eq_true, List.contains_iff_mem, beq_iff_eq] at hb
 rcases hb with hb | ⟨hm, hb⟩
 ·omega
 ·obtain ⟨d1, d2, d3⟩ := Q1c _ _ hm
  have hi : (ofS (Q01 k)).Items = true := by rw [(Qfe _ d1).items, d3]; simp; omega
  rcases hb with hb | hb
  ·omega
  ·rw [if_pos hi] at hb
   simp only [Bool.and_eq_true, decide_eq_true_eq] at hb
   exact ⟨hm, hi, hb.1⟩
theorem Qeb {v : Q0} {m : Int} (hf : Fine v) (h : W1 v m = 0) (hk : v.Kind ≠ 25) (b : List UInt8) : Q01 v.Kind ∈ Vl v.Kind ∧ Q2k (Q01 v.Kind) v b = true := by
 rcases Ua h with ⟨h1, h2, h3⟩ | ⟨h1, h2, _⟩
 ·obtain ⟨g1, g2⟩ := Qkt hf.num h3
  obtain ⟨f1, f2, _⟩ := Q3c g2
  refine ⟨g1, ?_⟩
  unfold Q2k
  rw [if_pos (Gk (Qfe _ f1) (by omega))]; exact g2
 ·obtain ⟨g1, g2, g3⟩ := Qjd (k := v.Kind) (by omega)
  refine ⟨g1, ?_⟩
  unfold Q2k
  rw [if_neg (by simp [g2]), if_neg (by omega)]
  simp [g3]
theorem Qma {v : Q0} {m : Int} (hf : Fine v) (h : W1 v m = 0) (hk : v.Kind = 24) : v.elm ∈ Vl v.N' ∧ ∀ x ∈ v.Items, Q2k v.elm x x.inn = true := by
 rcases Ua h with ⟨h1, h2, h3⟩ | ⟨h1, h2, h3, h4, h5, h6, h7⟩
 ·omega
 obtain ⟨s1, s2, s3, s4, s5⟩ := Q0a h4
 have hn := s2 hk
 have hkx : ∀ x ∈ v.Items, x.Kind = v.N' := fun x hx => by
  have := (h7 x hx).2 hk
  rw [Q3b (h7 x hx).1] at this; exact this
 have hlast : Q01 v.N' ∈ Vl v.N' := by
  have hb := Q8u (k := v.N') (by omega)
  unfold Qlp at hb
  rw [show ((v.N'.toNat : Nat) : Int) = v.N' by omega] at hb
  simp only [Bool.or_eq_true, Bool.not_eq_true', decide_eq_false_iff_not, Bool.and_eq_true, List.contains_iff_mem] at hb
  rcases hb with hb | ⟨hm, _⟩
  ·omega
  ·exact hm
 obtain ⟨g1, g2⟩ := Qhm (k := v.N') (l := v.prs) ⟨Q01 v.N', hlast, by
  unfold Qj9 Q0.prs
  rw [List.all_map, List.all_eq_true]
  intro x hx
  have hkk := hkx x hx
  have := (Qeb (hf.items x hx) (h7 x hx).1 (by omega) x.inn).2
  rw [hkk] at this
  exact this⟩
 refine ⟨g1, fun x hx => ?_⟩
 have := List.all_eq_true.1 g2 (x, x.inn) (by unfold Q0.prs; exact List.mem_map.2 ⟨x, hx, rfl⟩)
 exact this
theorem Qgz {v : Q0} {m : Int} (hf : Fine v) (h : W1 v m = 0) (hk : v.Kind ≠ 25) : v.cod ∈ Vl v.Kind ∧ Q2k v.cod v v.inn = true := by
 obtain ⟨l1, l2⟩ := Qeb hf h hk v.inn
 obtain ⟨g1, g2⟩ := Qhm (k := v.Kind) (l := [(v, v.inn)]) ⟨Q01 v.Kind, l1, by simp [Qj9, l2]⟩
 exact ⟨g1, by unfold Q0.cod; simpa [Qj9] using g2⟩
mutual
def Q0.wgt : Q0 → Nat
 | .mk _ _ t is => t.length + 30 + Q0.wgts is
def Q0.wgts : List Q0 → Nat
 | [] => 0
 | v :: l => v.wgt + Q0.wgts l
end
theorem Q0.wgt_eq (v : Q0) : v.wgt = v.Text.length + 30 + Q0.wgts v.Items := by cases v; simp only [Q0.wgt]
theorem Qct : ∀ (l : List Q0), ∀ x ∈ l, x.wgt ≤ Q0.wgts l
 | v :: l, x, hx => by
  simp only [Q0.wgts]
  rcases List.mem_cons.1 hx with rfl | hx
  ·omega
  ·have := Qct l x hx; omega
theorem Qhb (code : Int) : 0 ≤ (ofS code).Width ∧ (ofS code).Width.toNat ≤ 16 := by
 cases h : ofB code with
 | false => rw [Qc1 code h]; decide
 | true =>
  have hw := Qfe code h
  cases hi : (ofS code).Items with
  | false =>
   cases hw.shape hi with
   | sized w hs hw' h12 hk2 hc => rw [hw']; omega
   | wide hs hw' hk2 hc => rw [hw']; decide
   | num w hs hw' hh ht hc hbb => rw [hw']; omega
  | true =>
   obtain ⟨h1, h2⟩ := Gd h hi
   cases hs : (ofS code).Sized with
   | true => have := (h1 hs).1; omega
   | false =>
    have : (ofS code).Width = 0 := (Qld (P := fun t => t.2.2.2.2 = true → t.2.2.2.1 = false → t.2.2.1 = 0) (B := fun k => !(Vb k).2.2.2.2 || ((Vb k).2.2.2.1 || decide ((Vb k).2.2.1 = 0))) (by decide +kernel) (fun k hk h1 h2 => by simpa [h1, h2] using hk) h) hi hs
    omega
theorem Qr4 (code : Int) (v : Q0) : (Qmp code v).1.length ≤ v.Text.length + 16 := by
 unfold Qmp
 split
 ·simp
 ·split
  ·simp
  ·rename_i hf
   have hf : Q0v code v = true := by simpa using hf
   have := Q7y hf
   have := Qhb code
   simp only []
   split at * <;> omega
theorem Qla (code : Int) (v : Q0) (b : List UInt8) : (W0 code v b).length ≤ v.Text.length + 16 + b.length := by
 unfold W0
 split
 ·have := Qr4 code v; omega
 ·rename_i hi
  have hi : (ofS code).Items = true := by simpa using hi
  split
  ·simp
  ·rename_i hs
   have hs : (ofS code).Sized = true := by simpa using hs
   have hw : (ofS code).Width.toNat ≤ 4 := by
    cases h : ofB code with
    | false => rw [Qc1 code h]; decide
    | true => have := (Gd h hi).1 hs; omega
   simp [Zp]; omega
theorem Gt (v : Q0) : v.inn.length ≤ 1 + Q0.wgts v.Items ∧ v.byt.length ≤ v.wgt ∧ ∀ c, (W0 c v v.inn).length + 1 ≤ v.wgt := by
 induction v using Q0.ind with
 | h v ih =>
  have s1 : ∀ (l : List Q0), (∀ x ∈ l, x.byt.length ≤ x.wgt) → (l.map Q0.byt).flatten.length ≤ Q0.wgts l := by
   intro l
   induction l with
   | nil => intro _; simp
   | cons x l ihl =>
    intro h
    have h1 := h x (.head _)
    have h2 := ihl (fun y hy => h y (.tail _ hy))
    simp only [List.map_cons, List.flatten_cons, List.length_append, Q0.wgts]; omega
  have s2 : ∀ (c : Int) (l : List Q0), (∀ x ∈ l, ∀ c, (W0 c x x.inn).length + 1 ≤ x.wgt) → (l.map fun x => W0 c x x.inn).flatten.length ≤ Q0.wgts l := by
   intro c l
   induction l with
   | nil => intro _; simp
   | cons x l ihl =>
    intro h
    have h1 := h x (.head _) c
    have h2 := ihl (fun y hy => h y (.tail _ hy))
    simp only [List.map_cons, List.flatten_cons, List.length_append, Q0.wgts]; omega
  have hin : v.inn.length ≤ 1 + Q0.wgts v.Items := by
   rw [Q9s]
   split
   ·have := s2 v.elm v.Items (fun x hx => (ih x hx).2.2)
    simp only [List.length_cons]; omega
   ·split
    ·simp
    ·have := s1 v.Items (fun x hx => (ih x hx).2.1)
     omega
  have hd : ∀ c, (W0 c v v.inn).length + 1 ≤ v.wgt := fun c => by
   have := Qla c v v.inn
   rw [v.wgt_eq]; omega
  refine ⟨hin, ?_, hd⟩
  rw [Qgj]
  split
  ·have := s1 v.Items (fun x hx => (ih x hx).2.1)
   rw [v.wgt_eq]; simp only [List.length_cons]; omega
  ·have := hd v.cod
   simp only [List.length_cons]; omega
end
end Go.Av
namespace Go.Av
noncomputable section
open Go.Proofs
set_option maxRecDepth 100000
theorem Qdt {c : Int} (h : 0 ≤ c ∧ c < 256) : ((Q1h c).toNat : Int) = c := by
 unfold Q1h
 rw [UInt8.toNat_ofNat']
 omega
theorem of0 : ofB 0 = true ∧ (ofS 0).Kind = 25 ∧ (ofS 0).Items = true := by decide +kernel
theorem Qm9 {code : Int} (h : ofB code = true) (hi : (ofS code).Items = true) (hs : (ofS code).Sized = false) : (ofS code).Width = 0 :=
 (Qld (P := fun t => t.2.2.2.2 = true → t.2.2.2.1 = false → t.2.2.1 = 0) (B := fun k => !(Vb k).2.2.2.2 || ((Vb k).2.2.2.1 || decide ((Vb k).2.2.1 = 0))) (by decide +kernel) (fun k hk h1 h2 => by simpa [h1, h2] using hk) h) hi hs
theorem Qqu {v x : Q0} (hx : x ∈ v.Items) : x.wgt ≤ v.wgt := by
 have := Qct _ x hx
 rw [v.wgt_eq]; omega
end
end Go.Av
namespace Go.Av
noncomputable section
open Go.Proofs
set_option maxRecDepth 100000
def Q3p (v : Q0) : Int := if nnS v = true then (if v.Kind = 11 then 2143289344 else 9221120237041090560) else v.N'
mutual
def Q0.nrm : Q0 → Q0
 | .mk k n t is => ⟨k, Q3p ⟨k, n, t, is⟩, t, Q0.nrms is⟩
def Q0.nrms : List Q0 → List Q0
 | [] => []
 | v :: l => v.nrm :: Q0.nrms l
end
theorem Ql9 : ∀ l, Q0.nrms l = l.map Q0.nrm
 | [] => rfl
 | v :: l => by rw [Q0.nrms, Ql9 l]; rfl
theorem Q7h (v : Q0) : v.nrm = ⟨v.Kind, Q3p v, v.Text, v.Items.map Q0.nrm⟩ := by cases v; rw [Q0.nrm, Ql9]
theorem Q2g (v : Q0) : v.nrm.Kind = v.Kind := by rw [Q7h]
theorem Q7w (v : Q0) : v.nrm.Text = v.Text := by rw [Q7h]
theorem Gh (v : Q0) : v.nrm.Items = v.Items.map Q0.nrm := by rw [Q7h]
theorem Q9o (v : Q0) : v.nrm.N' = Q3p v := by rw [Q7h]
theorem Que (x : Int) : Q8 .neq x 0 = decide (x ≠ 0) := by rw [Bool.eq_iff_iff, Jf]; simp
theorem Q4s (v : Q0) : nnS v = ((decide (v.Kind = 11) && (decide (Gs .u64 (Q2n .u64 v.N' 23) 255 = 255) && decide (Q0z .u64 v.N' 41 ≠ 0))) || (decide (v.Kind = 12) && (decide (Gs .u64 (Q2n .u64 v.N' 52) 2047 = 2047) && decide (Q0z .u64 v.N' 12 ≠ 0)))) := by
 have h := Qqv 0 v
 unfold Z3 at h
 simp only [Q7, V7] at h
 by_cases k1 : v.Kind = 11
 ·have k2 : ¬ v.Kind = 12 := by omega
  rw [if_pos k1] at h
  split at h
  ·rename_i h1
   simp only [Option.some.injEq] at h
   rw [← h]
   rw [Que]
   simp [k1, h1]
  ·rename_i h1
   simp only [Option.some.injEq] at h
   rw [← h]
   simp [k1, h1]
 ·rw [if_neg k1] at h
  by_cases k2 : v.Kind = 12
  ·rw [if_pos k2] at h
   split at h
   ·rename_i h1
    simp only [Option.some.injEq] at h
    rw [← h]
    rw [Que]
    simp [k2, h1]
   ·rename_i h1
    simp only [Option.some.injEq] at h
    rw [← h]
    simp [k2, h1]
  ·rw [if_neg k2] at h
   simp only [Option.some.injEq] at h
   rw [← h]
   simp [k1, k2]
theorem Q98 {v : Q0} (h : nnS v = true) : v.Kind = 11 ∨ v.Kind = 12 := by
 rw [Q4s] at h
 simp only [Bool.or_eq_true, Bool.and_eq_true, decide_eq_true_eq] at h
 omega
theorem Q85 {v w : Q0} (h1 : v.Kind = w.Kind) (h2 : v.N' = w.N') : nnS v = nnS w := by rw [Q4s, Q4s, h1, h2]
theorem Qcj (k : Int) (t : List UInt8) (is : List Q0) (h : k = 11 ∨ k = 12) : nnS ⟨k, if k = 11 then 2143289344 else 9221120237041090560, t, is⟩ = true := by
 rcases h with rfl | rfl
 ·exact (Q85 (w := ⟨11, 2143289344, [], []⟩) rfl rfl).trans (by rw [Q4s]; decide)
 ·exact (Q85 (w := ⟨12, 9221120237041090560, [], []⟩) rfl rfl).trans (by rw [Q4s]; decide)
theorem Qm3 {v : Q0} (h : nnS v = true) : Q3p v = if v.Kind = 11 then 2143289344 else 9221120237041090560 := by unfold Q3p; rw [if_pos h]
theorem Qbk {v : Q0} (h : nnS v = false) : Q3p v = v.N' := by unfold Q3p; rw [if_neg (by simp [h])]
theorem Qs9 (v : Q0) : nnS v.nrm = nnS v := by
 cases h : nnS v with
 | true =>
  have hk := Q98 h
  rw [Q7h]
  unfold Q3p
  rw [if_pos h]
  exact Qcj _ _ _ hk
 | false =>
  rw [← h]
  refine Q85 (Q2g v) ?_
  rw [Q9o]
  unfold Q3p
  rw [if_neg (by simp [h])]
theorem Q5n (v : Q0) : v.nrm.sz = v.sz := by
 induction v using Q0.ind with
 | h v ih =>
  have hl : ∀ l : List Q0, (∀ x ∈ l, x.nrm.sz = x.sz) → Q0.szs (l.map Q0.nrm) = Q0.szs l := by
   intro l
   induction l with
   | nil => intro _; rfl
   | cons x l ihl => intro h; simp only [List.map_cons, Q0.szs, h x (.head _), ihl (fun y hy => h y (.tail _ hy))]
  rw [Q0.sz_eq, Gh, hl _ ih, v.sz_eq]
theorem Q9g (v : Q0) : v.nrm.wgt = v.wgt := by
 induction v using Q0.ind with
 | h v ih =>
  have hl : ∀ l : List Q0, (∀ x ∈ l, x.nrm.wgt = x.wgt) → Q0.wgts (l.map Q0.nrm) = Q0.wgts l := by
   intro l
   induction l with
   | nil => intro _; rfl
   | cons x l ihl => intro h; simp only [List.map_cons, Q0.wgts, h x (.head _), ihl (fun y hy => h y (.tail _ hy))]
  rw [Q0.wgt_eq, Gh, hl _ ih, v.wgt_eq, Q7w]
theorem Qmw {v : Q0} (h : okU v.N') : okU (Q3p v) := by
 unfold Q3p
 split
 ·split <;> exact ⟨by omega, by omega⟩
 ·exact h
theorem Qco {v : Q0} (h : Fine v) : Fine v.nrm := by
 induction v using Q0.ind with
 | h v ih =>
  refine .mk _ (by rw [Q9o]; exact Qmw h.num) (by rw [Q7w]; exact h.text) (fun x hx => ?_)
  rw [Gh] at hx
  obtain ⟨y, hy, rfl⟩ := List.mem_map.1 hx
  exact ih y hy (h.items y hy)
theorem Qe8 {v : Q0} (h : v.Kind ≠ 11 ∧ v.Kind ≠ 12) : Q3p v = v.N' := by
 unfold Q3p
 rw [if_neg (fun hn => by have := Q98 hn; omega)]
theorem Qdn : ∀ (n : Nat) (a b : Q0), a.sz ≤ n → Q14 a.nrm b.nrm = true → Q14 a b = true
 | 0, a, b, h, _ => by have := a.sz_eq; omega
 | n + 1, a, b, h, hh => by
  have hs := a.sz_eq
  rw [Q93] at hh ⊢
  simp only [Q2g, Q7w, Gh, Q9o, Qs9, List.length_map, Bool.and_eq_true, Bool.or_eq_true, decide_eq_true_eq] at hh ⊢
  obtain ⟨h1, h2, h3, h4, h5⟩ := hh
  refine ⟨h1, h2, h3, ?_, ?_⟩
  ·rcases h4 with h4 | h4
   ·cases na : nnS a <;> cases nb : nnS b
    ·left; rw [Qbk na, Qbk nb] at h4; exact h4
    ·rw [Qbk na, Qm3 nb] at h4
     have hk := Q98 nb
     have : nnS a = true := by
      rw [← Qcj a.Kind [] [] (by omega)]
      refine Q85 rfl ?_
      show a.N' = _
      rw [h4, h1]
     rw [na] at this; cases this
    ·rw [Qm3 na, Qbk nb] at h4
     have hk := Q98 na
     have : nnS b = true := by
      rw [← Qcj b.Kind [] [] (by omega)]
      refine Q85 rfl ?_
      show b.N' = _
      rw [← h4, h1]
     rw [nb] at this; cases this
    ·right; exact ⟨rfl, rfl⟩
   ·right; exact h4
  ·have hl : ∀ (l m : List Q0), Q0.szs l ≤ n → Q0m (l.map Q0.nrm) (m.map Q0.nrm) = true → Q0m l m = true := by
    intro l
    induction l with
    | nil => intro m _ _; rfl
    | cons x l ihl =>
     intro m hz hm
     simp only [Q0.szs] at hz
     cases m with
     | nil => simp [Q0m] at hm
     | cons y m =>
      simp only [List.map_cons, Q0m, Bool.and_eq_true] at hm ⊢
      exact ⟨Qdn n x y (by omega) hm.1, ihl m (by omega) hm.2⟩
   exact hl _ _ (by omega) h5
theorem Qnv {v : Q0} (h : Q3q v = 0) : Q3q v.nrm = 0 := by
 unfold Q3q at h ⊢
 rw [Q2g]
 split
 ·rfl
 ·rename_i hk
  rw [if_neg hk] at h
  split at h
  ·cases h
  ·rename_i hne
   rw [if_neg]
   rintro ⟨i, j, h1, h2, h3, h4, h5, x, y, hx, hy, ha⟩
   rw [Gh, List.length_map] at h3
   rw [Gh, List.getElem?_map] at hx hy
   cases hxi : v.Items[i]? with
   | none => rw [hxi] at hx; cases hx
   | some x' =>
    cases hyi : v.Items[j]? with
    | none => rw [hyi] at hy; cases hy
    | some y' =>
     rw [hxi] at hx; rw [hyi] at hy
     cases hx; cases hy
     exact hne ⟨i, j, h1, h2, h3, h4, h5, x', y', hxi, hyi, Qdn _ x' y' (Nat.le_refl _) ha⟩
theorem Qku {v : Q0} (h : Q51 v.Kind v.N' = true) : Q51 v.Kind (Q3p v) = true := by
 unfold Q3p
 split
 ·rename_i hn
  rcases Q98 hn with hk | hk <;> rw [hk] <;> decide
 ·exact h
theorem Qim {v : Q0} (h : Wd v = 0) : Wd v.nrm = 0 := by
 obtain ⟨c1, c2, c3, c4, c5, c6, c7⟩ := Uz h
 unfold Wd at h ⊢
 simp only [Q2g, Q7w, Gh, Q9o, c4, List.map_nil] at h ⊢
 rw [Qku c3]
 rw [c3] at h
 exact h
theorem Qif {v : Q0} (hk : 22 ≤ v.Kind) (h : Jh v = true) : Jh v.nrm = true := by
 obtain ⟨s1, s2, s3, s4, s5⟩ := Q0a h
 have : v.nrm = ⟨v.Kind, v.N', [], v.Items.map Q0.nrm⟩ := by rw [Q7h, Qe8 (by omega), s1]
 rw [this]
 exact Qjv s2 s3 (fun h => by rw [List.length_map]; exact s4 h) (fun h => by rw [List.length_map]; exact s5 h)
theorem Q8d (v : Q0) : ∀ m : Int, W1 v m = 0 → W1 v.nrm m = 0 := by
 induction v using Q0.ind with
 | h v ih =>
  intro m h
  rcases Ua h with ⟨k1, k2, k3⟩ | ⟨k1, k2, k3, k4, k5, k6, k7⟩
  ·rw [Q3t, Q2g, if_neg (by omega), if_neg (by omega), if_pos k2]
   exact Qim k3
  ·rw [Q3t, Q2g, if_neg (by omega), if_neg (by omega), if_neg (by omega), if_neg k3, Qif k1 k4, if_neg (by simp), Gh, List.length_map, if_neg (by omega), Qnv k6, Q9o, Qe8 (by omega)]
   refine Qbg _ _ _ _ (fun x hx => ?_)
   obtain ⟨y, hy, rfl⟩ := List.mem_map.1 hx
   refine ⟨ih y hy _ (k7 y hy).1, fun hk => ?_⟩
   rw [Q2g]; exact (k7 y hy).2 hk
theorem Qm1 {R : Q0 → Option Q0} {N : Nat} {v : Q0} {c : Int} (hb : v.sz < 1000000000) (hR : ∀ y ∈ v.Items, R y = some y.nrm) : ∀ (n i : Nat), i ≤ v.Items.length → v.Items.length - i < n →
  Ww R N v c n (i : Int) ((v.Items.take i).map Q0.nrm) = some ⟨v.Kind, c, v.Text, v.Items.map Q0.nrm⟩
 | 0, i, _, h => by omega
 | n + 1, i, hi, hn => by
  have hs := v.sz_eq
  have hl := Q0.szs_len v.Items
  simp only [Ww, Q7, Xx, Qo, Zu]
  by_cases h : i < v.Items.length
  ·rw [if_pos (by omega), List.getElem?_eq_getElem h]
   simp only [Option.bind_some, hR _ (List.getElem_mem h)]
   rw [if_pos (by rw [Nat.ble_eq, List.length_map, List.length_take]; omega), Qn _ (by omega)]
   have e : (v.Items.take i).map Q0.nrm ++ [v.Items[i].nrm] = (v.Items.take (i + 1)).map Q0.nrm := by
    rw [List.take_succ_eq_append_getElem h, List.map_append]; rfl
   rw [e]
   exact_mod_cast Qm1 (N := N) hb hR n (i + 1) (by omega) (by omega)
  ·rw [if_neg (by omega), List.take_of_length_le (by omega)]
theorem Qg1 : ∀ (N : Nat) (v : Q0), v.sz < N → v.sz < 1000000000 → Xn N v = some v.nrm
 | 0, v, h, _ => by omega
 | N + 1, v, h, h2 => by
  have hs := v.sz_eq
  have hl := Q0.szs_len v.Items
  have hL : ∀ c, X1 (Xn N) N v c = some ⟨v.Kind, c, v.Text, v.Items.map Q0.nrm⟩ := fun c =>
   Qm1 (R := Xn N) (N := N) (v := v) h2 (fun y hy => Qg1 N y (by have := Q0.szs_mem _ y hy; omega) (by have := Q0.szs_mem _ y hy; omega)) N 0 (by omega) (by omega)
  rw [Q7h]
  show Un (Xn N) N v = _
  simp only [Un, Wv, Wu, hL, Q7, V7, Jf]
  have hd := Q4s v
  unfold Q3p
  by_cases k1 : v.Kind = 11
  ·have k2 : ¬ v.Kind = 12 := by omega
   simp only [k1, decide_true, Bool.true_and, show decide ((11 : Int) = 12) = false from rfl, Bool.false_and, Bool.or_false] at hd
   simp only [if_pos k1, if_neg k2]
   by_cases q1 : Gs .u64 (Q2n .u64 v.N' 23) 255 = 255 <;> by_cases q2 : Q0z .u64 v.N' 41 ≠ 0 <;> simp [hd, q1, q2]
  ·simp only [if_neg k1]
   by_cases k2 : v.Kind = 12
   ·simp only [k2, show decide ((12 : Int) = 11) = false from rfl, decide_true, Bool.true_and, Bool.false_and, Bool.false_or] at hd
    simp only [if_pos k2]
    by_cases q1 : Gs .u64 (Q2n .u64 v.N' 52) 2047 = 2047 <;> by_cases q2 : Q0z .u64 v.N' 12 ≠ 0 <;> simp [hd, q1, q2]
   ·simp only [k1, k2, decide_false, Bool.false_and, Bool.or_false] at hd
    simp [hd, k2]
end
end Go.Av
namespace Go.Av
noncomputable section
open Go.Proofs
set_option maxRecDepth 100000
theorem Qb6 {R : Q0 → Option Q0} {N : Nat} {v : Q0} (hb : v.sz < 1000000000) (hR : ∀ y ∈ v.Items, R y = some y) : ∀ (n i : Nat), i ≤ v.Items.length → v.Items.length - i < n → Zd R N v n (i : Int) (v.Items.take i) = some v
 | 0, i, _, h => by omega
 | n + 1, i, hi, hn => by
  have hs := v.sz_eq
  have hl := Q0.szs_len v.Items
  simp only [Zd, Q7, Xx, Qo, Zu]
  by_cases h : i < v.Items.length
  ·rw [if_pos (by omega), List.getElem?_eq_getElem h]
   simp only [Option.bind_some, hR _ (List.getElem_mem h)]
   rw [if_pos (by rw [Nat.ble_eq, List.length_take]; omega), Qn _ (by omega), ← List.take_succ_eq_append_getElem h]
   exact_mod_cast Qb6 (N := N) hb hR n (i + 1) (by omega) (by omega)
  ·rw [if_neg (by omega), List.take_of_length_le (by omega)]
   cases v; rfl
theorem Qal : ∀ (N : Nat) (v : Q0), v.sz < N → v.sz < 1000000000 → Y2 N v = some v
 | 0, v, h, _ => by omega
 | N + 1, v, h, h2 => by
  have hs := v.sz_eq
  have hl := Q0.szs_len v.Items
  have := Qb6 (R := Y2 N) (N := N) (v := v) h2 (fun y hy => Qal N y (by have := Q0.szs_mem _ y hy; omega) (by have := Q0.szs_mem _ y hy; omega)) N 0 (by omega) (by omega)
  exact this
theorem Qbh {R : Q0 → Option Q0} {N : Nat} {v w : Q0} {c : Int} (hb : v.sz < 1000000000) (hR : ∀ y ∈ v.Items, R y = some y.nrm) : ∀ (n i : Nat), i ≤ v.Items.length → v.Items.length - i < n →
  Yt R N v w c n (i : Int) ((v.Items.take i).map Q0.nrm ++ v.Items.drop i) = some ⟨w.Kind, c, w.Text, v.Items.map Q0.nrm⟩
 | 0, i, _, h => by omega
 | n + 1, i, hi, hn => by
  have hs := v.sz_eq
  have hl := Q0.szs_len v.Items
  have hlen : ((v.Items.take i).map Q0.nrm).length = i := by rw [List.length_map, List.length_take]; omega
  simp only [Yt, Q7, Xx, Qo, Zu]
  by_cases h : i < v.Items.length
  ·rw [if_pos (by omega), List.getElem?_eq_getElem h]
   simp only [Option.bind_some, hR _ (List.getElem_mem h)]
   rw [List.getElem?_append_right (by omega), hlen, Nat.sub_self, List.drop_eq_getElem_cons h]
   simp only [List.getElem?_cons_zero, Option.bind_some, Int.toNat_natCast]
   rw [Qn _ (by omega), List.set_append_right _ _ (by omega), hlen, Nat.sub_self, List.set_cons_zero]
   have e : (v.Items.take i).map Q0.nrm ++ v.Items[i].nrm :: v.Items.drop (i + 1) = (v.Items.take (i + 1)).map Q0.nrm ++ v.Items.drop (i + 1) := by
    rw [List.take_succ_eq_append_getElem h, List.map_append, List.append_assoc]; rfl
   rw [e]
   exact_mod_cast Qbh (N := N) hb hR n (i + 1) (by omega) (by omega)
  ·rw [if_neg (by omega), List.take_of_length_le (by omega), List.drop_of_length_le (by omega), List.append_nil]
theorem Qod {n : Int} (h : okU n) : ((Gs .u64 n 2139095040 = 2139095040) = (Gs .u64 (Q2n .u64 n 23) 255 = 255)) ∧ ((Gs .u64 n 8388607 ≠ 0) = (Q0z .u64 n 41 ≠ 0)) ∧
  ((Gs .u64 n 9218868437227405312 = 9218868437227405312) = (Gs .u64 (Q2n .u64 n 52) 2047 = 2047)) ∧ ((Gs .u64 n 4503599627370495 ≠ 0) = (Q0z .u64 n 12 ≠ 0)) := by
 obtain ⟨h0, h1⟩ := h
 obtain ⟨n, rfl⟩ := Int.eq_ofNat_of_zero_le h0
 have h1 : n < 18446744073709551616 := by omega
 have e1 := Qsw n 8 23 h1 (by decide) (by decide) (by decide)
 have e2 := Qsw n 11 52 h1 (by decide) (by decide) (by decide)
 rw [show ((2 ^ 8 - 1 : Nat) : Int) = 255 from rfl, show (((2 ^ 8 - 1) * 2 ^ 23 : Nat) : Int) = 2139095040 from rfl, show ((23 : Nat) : Int) = 23 from rfl] at e1
 rw [show ((2 ^ 11 - 1 : Nat) : Int) = 2047 from rfl, show (((2 ^ 11 - 1) * 2 ^ 52 : Nat) : Int) = 9218868437227405312 from rfl, show ((52 : Nat) : Int) = 52 from rfl] at e2
 exact ⟨e1.symm, Qrw n h1, e2.symm, Qsh n h1⟩
theorem Qaz : ∀ (N : Nat) (v : Q0), Fine v → v.sz + 1 < N → v.sz < 1000000000 → Y3 N v = some v.nrm
 | 0, v, _, h, _ => by omega
 | N + 1, v, hf, h, h2 => by
  have hs := v.sz_eq
  have hl := Q0.szs_len v.Items
  have hL : ∀ c, Zc (Y3 N) N v v c = some ⟨v.Kind, c, v.Text, v.Items.map Q0.nrm⟩ := fun c => by
   have := Qbh (R := Y3 N) (N := N) (v := v) (w := v) (c := c) h2 (fun y hy => Qaz N y (hf.items y hy) (by have := Q0.szs_mem _ y hy; omega) (by have := Q0.szs_mem _ y hy; omega)) N 0 (by omega) (by omega)
   simpa [Zc] using this
  rw [Q7h]
  show V1 (Y3 N) N v = _
  obtain ⟨b1, b2, b3, b4⟩ := Qod hf.num
  simp only [V1, Qal N v (by omega) h2, Option.bind_some, Yp, Zr, Yr, hL, Q7, V7, Jf, b1, b2, b3, b4]
  have hd := Q4s v
  unfold Q3p
  by_cases k1 : v.Kind = 11
  ·have k2 : ¬ v.Kind = 12 := by omega
   simp only [k1, decide_true, Bool.true_and, show decide ((11 : Int) = 12) = false from rfl, Bool.false_and, Bool.or_false] at hd
   simp only [if_pos k1, if_neg k2]
   by_cases q1 : Gs .u64 (Q2n .u64 v.N' 23) 255 = 255 <;> by_cases q2 : Q0z .u64 v.N' 41 ≠ 0 <;> simp [hd, q1, q2]
  ·simp only [if_neg k1]
   by_cases k2 : v.Kind = 12
   ·simp only [k2, show decide ((12 : Int) = 11) = false from rfl, decide_true, Bool.true_and, Bool.false_and, Bool.false_or] at hd
    simp only [if_pos k2]
    by_cases q1 : Gs .u64 (Q2n .u64 v.N' 52) 2047 = 2047 <;> by_cases q2 : Q0z .u64 v.N' 12 ≠ 0 <;> simp [hd, q1, q2]
   ·simp only [k1, k2, decide_false, Bool.false_and, Bool.or_false] at hd
    simp [hd, k2]
end
end Go.Av
