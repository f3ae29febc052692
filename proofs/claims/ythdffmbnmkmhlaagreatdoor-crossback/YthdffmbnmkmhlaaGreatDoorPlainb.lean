/- Part of the proof of CrossBack: for every input the law returns true; no condition. -/
import Derived.Test.YthdffmbnmkmhlaaGreatDoorPlain
import Derived.Test.YthdffmbnmkmhlaaGreatDoorLiftF3
namespace Go.Av
noncomputable section
open Go.Proofs
set_option maxRecDepth 100000
def Qxy (k : Nat) : Bool := !(Us k).2.2.2.2 || (if (Us k).2.2.2.1 then decide (((Us k).2.2.1 = 1 ∨ (Us k).2.2.1 = 4) ∧ 22 ≤ (Us k).2.1 ∧ (Us k).2.1 ≤ 24) else decide ((Us k).2.1 = 25 ∨ (Us k).2.1 = 22))
theorem Qt4 : ((List.range 40).all Qxy) = true := by decide +kernel
theorem Qzg {P : Int × Int × Int × Bool × Bool → Prop} {B : Nat → Bool} (hB : ((List.range 40).all B) = true) (hP : ∀ k, B k = true → P (Us k)) {code : Int} (h : ofB code = true) : P (ofT code) := by
 have h1 : bsI code < 40 ∧ Q0o (bsI code) = code := by simpa [ofB] using h
 have := Lq.1 hB (bsI code) (by simpa using h1.1)
 have e : ofT code = Us (bsI code) := by unfold ofT; rw [if_pos h]
 rw [e]; exact hP _ this
theorem Q6d {code : Int} (h : ofB code = true) (hi : (ofS code).Items = true) : ((ofS code).Sized = true → ((ofS code).Width = 1 ∨ (ofS code).Width = 4) ∧ 22 ≤ (ofS code).Kind ∧ (ofS code).Kind ≤ 24) ∧ ((ofS code).Sized = false → (ofS code).Kind = 25 ∨ (ofS code).Kind = 22) :=
 Qzg (P := fun t => t.2.2.2.2 = true → (t.2.2.2.1 = true → (t.2.2.1 = 1 ∨ t.2.2.1 = 4) ∧ 22 ≤ t.2.1 ∧ t.2.1 ≤ 24) ∧ (t.2.2.2.1 = false → t.2.1 = 25 ∨ t.2.1 = 22)) Qt4 (fun k hk h1 => by
  simp only [Qxy, h1, Mg, Nq] at hk;refine ⟨fun h2 => ?_, fun h2 => ?_⟩
  ·rw [h2] at hk; simpa using hk
  rw [h2] at hk; simpa using hk) h hi
end
end Go.Av
namespace Go.Av
noncomputable section
open Go.Proofs
set_option maxRecDepth 100000
end
end Go.Av
namespace Go.Av
noncomputable section
open Go.Proofs
set_option maxRecDepth 100000
theorem Qsv (n m k : Nat) : n &&& (m * 2 ^ k) = ((n / 2 ^ k) &&& m) * 2 ^ k := by
 apply Nat.eq_of_testBit_eq;intro i;rw [Nat.testBit_and, Dl, Dl, Nat.testBit_and, Nat.testBit_div_two_pow]
 by_cases h : k ≤ i
 ·simp [h]
 simp [h]
theorem Qzi (n k : Nat) (h : k ≤ 64) : Q5a .u64 (n : Int) (k : Int) = ((n / 2 ^ k : Nat) : Int) := by
 have e : min (k : Int).toNat IntKind.u64.bits = k := by simp [IntKind.bits]; omega
 simp only [Q5a, e];rw [Ns _ (by exact_mod_cast Mv _)]
 push_cast; rfl
theorem Z46 (n e k : Nat) (hn : n < 18446744073709551616) (hk : k ≤ 63) (he : (2 ^ e - 1) * 2 ^ k < 18446744073709551616) (he2 : 2 ^ e - 1 < 18446744073709551616) :
  (Q2n .u64 (Q5a .u64 (n : Int) (k : Int)) ((2 ^ e - 1 : Nat) : Int) = ((2 ^ e - 1 : Nat) : Int)) = (Q2n .u64 (n : Int) (((2 ^ e - 1) * 2 ^ k : Nat) : Int) = (((2 ^ e - 1) * 2 ^ k : Nat) : Int)) := by
 rw [Qzi n k (by omega), Q68 _ _ (Nat.lt_of_le_of_lt (Nat.div_le_self _ _) hn) he2, Q68 _ _ hn he, Qsv];apply propext;have hp : 0 < 2 ^ k := Nat.two_pow_pos k;constructor
 ·intro h;have := Int.ofNat.inj h;rw [this]
 intro h;have := Nat.eq_of_mul_eq_mul_right hp (Int.ofNat.inj h);rw [this]
theorem Z3j (n : Nat) (hn : n < 18446744073709551616) : (Q2n .u64 (n : Int) 8388607 ≠ 0) = (Q41 .u64 (n : Int) 41 ≠ 0) := by
 have e : Q41 .u64 (n : Int) 41 = ((n : Int) * 2199023255552) % 18446744073709551616 := by
  show IntKind.u64.wrap _ = _;rw [Z12]; rfl
 rw [show (8388607 : Int) = ((8388607 : Nat) : Int) from rfl, Q68 _ _ hn (by decide), e, show (8388607 : Nat) = 2 ^ 23 - 1 from rfl, Cr];apply propext; omega
theorem Z3f (n : Nat) (hn : n < 18446744073709551616) : (Q2n .u64 (n : Int) 4503599627370495 ≠ 0) = (Q41 .u64 (n : Int) 12 ≠ 0) := by
 have e : Q41 .u64 (n : Int) 12 = ((n : Int) * 4096) % 18446744073709551616 := by
  show IntKind.u64.wrap _ = _;rw [Z12]; rfl
 rw [show (4503599627370495 : Int) = ((4503599627370495 : Nat) : Int) from rfl, Q68 _ _ hn (by decide), e, show (4503599627370495 : Nat) = 2 ^ 52 - 1 from rfl, Cr];apply propext; omega
theorem Qg8 (N : Nat) (v : Q0) (h : okU v.N') : V5 N v = some (nnS v) := by
 rw [← Qzo 0 v];obtain ⟨h0, h1⟩ := h;obtain ⟨n, hn⟩ := Dm h0;rw [hn] at h1
 have h1 : n < 18446744073709551616 := by omega
 have e1 := Z46 n 8 23 h1 (by decide) (by decide) (by decide);have e2 := Z46 n 11 52 h1 (by decide) (by decide) (by decide);rw [show ((2 ^ 8 - 1 : Nat) : Int) = 255 from rfl, show (((2 ^ 8 - 1) * 2 ^ 23 : Nat) : Int) = 2139095040 from rfl, show ((23 : Nat) : Int) = 23 from rfl] at e1;rw [show ((2 ^ 11 - 1 : Nat) : Int) = 2047 from rfl, show (((2 ^ 11 - 1) * 2 ^ 52 : Nat) : Int) = 9218868437227405312 from rfl, show ((52 : Nat) : Int) = 52 from rfl] at e2
 have l1 : Q3 .neq (Q2n .u64 (n : Int) 8388607) 0 = Q3 .neq (Q41 .u64 (n : Int) 41) 0 := by
  rw [Mq, Q01, Q01, Z3j n h1]
 have l2 : Q3 .neq (Q2n .u64 (n : Int) 4503599627370495) 0 = Q3 .neq (Q41 .u64 (n : Int) 12) 0 := by
  rw [Mq, Q01, Q01, Z3f n h1]
 unfold V5 Zj;simp only [hn, l1, l2, Q9, J6, e1, e2]
 by_cases k1 : v.Kind = 11
 ·have k2 : ¬ v.Kind = 12 := by omega
  simp only [if_pos k1, if_neg k2];split
  ·split
   ·rename_i h; rw [h]
   rename_i h
   cases hc : Q3 .neq (Q41 .u64 (n : Int) 41) 0 with
   | true => exact absurd hc h
   | false => rfl
  rfl
 simp only [if_neg k1]
theorem Qdr {R : Q0 → Q0 → Option Bool} {N : Nat} {a b : Q0} (hlen : a.Items.length = b.Items.length) (hb : a.Items.length < 4611686018427387904)
  (hR : ∀ y ∈ a.Items, ∀ z ∈ b.Items, R y z = some (Q4b y z)) : ∀ (n i : Nat), i ≤ a.Items.length → a.Items.length - i < n →
  Yd R N a b n (i : Int) = some (Q3v (a.Items.drop i) (b.Items.drop i)) ∧ Yc R N a b n (i : Int) = some (Q3v (a.Items.drop i) (b.Items.drop i))
 | 0, i, _, h => by omega
 | n + 1, i, h1, h2 => by
  simp only [Yd, Yc, Q9, Wm, Qh]
  by_cases hi : i < a.Items.length
  ·rw [if_pos (by omega), if_pos (by omega), Zs, Zs, La hi, La (show i < b.Items.length by omega)];simp only [Lb, hR _ (Lp hi) _ (Lp (show i < b.Items.length by omega))];rw [Z1 _ (by omega)];obtain ⟨ih1, ih2⟩ := Qdr (N := N) hlen hb hR n (i + 1) (by omega) (by omega);rw [Ln hi, Ln (show i < b.Items.length by omega), Q3v]
   cases Q4b a.Items[i] b.Items[i] with
   | true =>
    simp only [Mg, Lf, if_false, Mo];exact ⟨by exact_mod_cast ih1, by exact_mod_cast ih2⟩
   | false => simp
  rw [if_neg (by omega), if_neg (by omega), Lm (by omega)];simp [Q3v]
theorem Qff : ∀ (N : Nat) (a b : Q0), Fine a → Fine b → a.sz < N → a.sz < 1000000000 → Xf N a b = some (Q4b a b)
 | 0, a, b, _, _, h, _ => by have := a.sz_eq; omega
 | N + 1, a, b, fa, fb, h, h2 => by
  have hs := a.sz_eq;have hl := Q0.szs_len a.Items;rw [Qf1];simp only [Xf, Ja, Q9, Q01, Q09, Qh, Qg8 N a fa.num, Qg8 N b fb.num, Lb]
  by_cases e1 : a.Kind = b.Kind
  ·by_cases e3 : a.Text = b.Text
   ·by_cases e4 : a.Items.length = b.Items.length
    ·simp only [if_neg (show ¬ (a.Kind ≠ b.Kind) by simp [e1]), if_neg (show ¬ (a.Text ≠ b.Text) by simp [e3]), if_neg (show ¬ ((a.Items.length : Int) ≠ b.Items.length) by simp [e4])];obtain ⟨i1, i2⟩ := Qdr (N := N) (R := Xf N) e4 (by omega) (fun y hy z hz => Qff N y z (fa.items y hy) (fb.items z hz) (by have := Q0.szs_mem _ y hy; omega) (by have := Q0.szs_mem _ y hy; omega)) N 0 (by omega) (by omega);rw [show ((0 : Nat) : Int) = 0 from rfl] at i1 i2;rw [i1, i2, Mj, Mj];simp only [e1, e3, e4, decide_true, Mo]
     by_cases e2 : a.N' = b.N'
     ·simp [e2]
     simp only [e2, ne_eq, not_false_eq_true, if_true, decide_false, Nq];cases nnS a <;> cases nnS b <;> simp
    simp only [if_neg (show ¬ (a.Kind ≠ b.Kind) by simp [e1]), if_neg (show ¬ (a.Text ≠ b.Text) by simp [e3]), if_pos (show ((a.Items.length : Int) ≠ b.Items.length) by omega)];simp [e4]
    repeat' split
    all_goals rfl
   simp only [if_neg (show ¬ (a.Kind ≠ b.Kind) by simp [e1]), if_pos (show (a.Text ≠ b.Text) from e3)];simp [e3]
   repeat' split
   all_goals rfl
  rw [if_pos (by simpa using e1)];simp [e1]
end
end Go.Av
namespace Go.Av
noncomputable section
open Go.Proofs
set_option maxRecDepth 100000
theorem Qhg {R : Q0 → Q0 → Option Bool} {N : Nat} {a b : Q0} (hlen : a.Items.length = b.Items.length) (hb : a.Items.length < 4611686018427387904)
  (hR : ∀ y ∈ a.Items, ∀ z, R y z = some (decide (y = z))) : ∀ (n i : Nat), i ≤ a.Items.length → a.Items.length - i < n →
  Yw R N a b n (i : Int) = some (decide (a.Items.drop i = b.Items.drop i))
 | 0, i, _, h => by omega
 | n + 1, i, h1, h2 => by
  simp only [Yw, Q9, Wm, Qh]
  by_cases hi : i < a.Items.length
  ·rw [if_pos (by omega), Zs, Zs, La hi, La (show i < b.Items.length by omega)];simp only [Lb, hR _ (Lp hi)];rw [Z1 _ (by omega)];have ih := Qhg (N := N) hlen hb hR n (i + 1) (by omega) (by omega);rw [Ln hi, Ln (show i < b.Items.length by omega)]
   by_cases he : a.Items[i] = b.Items[i]
   ·rw [← he]; simp only [decide_true, Mg, Lf, if_false, Bb, true_and]
    exact_mod_cast ih
   have hne : ¬ (a.Items[i] :: List.drop (i + 1) a.Items = b.Items[i] :: List.drop (i + 1) b.Items) := fun e => he (List.cons.inj e).1;simp only [he, decide_false, Bh, if_true];rw [decide_eq_false hne]
  rw [if_neg (by omega), Lm (by omega), Lm (by omega)];simp
theorem Qh8 : ∀ (N : Nat) (a b : Q0), a.sz < N → a.sz < 1000000000 → Xv N a b = some (decide (a = b))
 | 0, a, b, h, _ => by have := a.sz_eq; omega
 | N + 1, a, b, h, h2 => by
  have hs := a.sz_eq;have hl := Q0.szs_len a.Items;simp only [Xv, Jp, Q9, Q01, Q09, Qh]
  by_cases e1 : a.Kind = b.Kind
  ·by_cases e2 : a.N' = b.N'
   ·by_cases e3 : a.Text = b.Text
    ·by_cases e4 : a.Items.length = b.Items.length
     ·rw [if_neg (by simp [e1]), if_neg (by simp [e2]), if_neg (by simp [e3]), if_neg (by simp [e4])];have := Qhg (N := N) (R := Xv N) e4 (by omega) (fun y hy z => Qh8 N y z (by have := Q0.szs_mem _ y hy; omega) (by have := Q0.szs_mem _ y hy; omega)) N 0 (by omega) (by omega);rw [show (0 : Int) = ((0 : Nat) : Int) from rfl, this];cases a; cases b; simp_all
     rw [if_neg (by simp [e1]), if_neg (by simp [e2]), if_neg (by simp [e3]), if_pos (by omega)];have : a ≠ b := fun e => e4 (by rw [e]);simp [this]
    rw [if_neg (by simp [e1]), if_neg (by simp [e2]), if_pos (by simpa using e3)];have : a ≠ b := fun e => e3 (by rw [e]);simp [this]
   rw [if_neg (by simp [e1]), if_pos (by simpa using e2)];have : a ≠ b := fun e => e2 (by rw [e]);simp [this]
  rw [if_pos (by simpa using e1)];have : a ≠ b := fun e => e1 (by rw [e]);simp [this]
open Classical in
theorem Qps {N : Nat} {v : Q0} (hf : Fine v) (hb : v.sz < 1000000000) (hN : v.sz < N) {k0 : Int → Option Bool} {i : Nat} (hi : i < v.Items.length) (i2 : i % 2 = 0) : ∀ (n k : Nat), i - k < n → k % 2 = 0 → k ≤ i →
  Yk N k0 v.Items (i : Int) n (k : Int) = if ∃ j, k ≤ j ∧ j < i ∧ j % 2 = 0 ∧ AL v i j then some true else k0 ((i + 2 : Nat) : Int)
 | 0, k, h, _, _ => by omega
 | n + 1, k, h, hk, hki => by
  have hs := v.sz_eq;have hl := Q0.szs_len v.Items;simp only [Yk, Q9, Wm, Zs]
  by_cases hlt : k < i
  ·rw [if_pos (by omega), La hi, La (show k < v.Items.length by omega)];simp only [Lb];have hsz := Q0.szs_mem _ _ (Lp hi);rw [Qff N _ _ (hf.items _ (Lp hi)) (hf.items _ (Lp (show k < v.Items.length by omega))) (by omega) (by omega)];simp only [Lb]
   cases hal : Q4b v.Items[i] v.Items[k] with
   | true =>
    rw [if_pos rfl, if_pos ⟨k, Lk _, hlt, hk, _, _, La hi, La (by omega), hal⟩]
   | false =>
    rw [if_neg (by simp), Z1 _ (by omega)];have := Qps (k0 := k0) hf hb hN hi i2 n (k + 2) (by omega) (by omega) (by omega);rw [show ((k : Int) + 2) = ((k + 2 : Nat) : Int) by push_cast; rfl, this]
    by_cases hx : ∃ j, k + 2 ≤ j ∧ j < i ∧ j % 2 = 0 ∧ AL v i j
    ·rw [if_pos hx];obtain ⟨j, j1, j2, j3, j4⟩ := hx;rw [if_pos ⟨j, by omega, j2, j3, j4⟩]
    rw [if_neg hx, if_neg]
    rintro ⟨j, j1, j2, j3, j4⟩
    by_cases hjk : j = k
    ·subst hjk;obtain ⟨x, y, x1, y1, z1⟩ := j4;rw [La hi] at x1;rw [La (by omega)] at y1;cases x1; cases y1;rw [hal] at z1; cases z1
    exact hx ⟨j, by omega, j2, j3, j4⟩
  rw [if_neg (by omega), Z1 _ (by omega), if_neg (by rintro ⟨j, j1, j2, _⟩; omega)]
  push_cast; rfl
open Classical in
theorem Qo1 {N : Nat} {v : Q0} (hf : Fine v) (hb : v.sz < 1000000000) (hN : v.sz < N) : ∀ (n i : Nat), v.Items.length - i < n → i % 2 = 0 → i ≤ v.Items.length + 2 →
  Z6 N v.Items n (i : Int) = some (if ∃ i' j, i ≤ i' ∧ i' % 2 = 0 ∧ i' < v.Items.length ∧ j < i' ∧ j % 2 = 0 ∧ AL v i' j then true else false)
 | 0, i, h, _, _ => by omega
 | n + 1, i, h, hi, hle => by
  have hs := v.sz_eq;have hl := Q0.szs_len v.Items;simp only [Z6, Q9, Wm, Qh]
  by_cases hlt : i < v.Items.length
  ·rw [if_pos (by omega)];have h1 := Qps (N := N) (k0 := Z6 N v.Items n) hf hb hN hlt hi N 0 (by omega) (by omega) (by omega);rw [show ((0 : Nat) : Int) = 0 from rfl] at h1;rw [h1]
   by_cases hx : ∃ j, 0 ≤ j ∧ j < i ∧ j % 2 = 0 ∧ AL v i j
   ·rw [if_pos hx];obtain ⟨j, _, j2, j3, j4⟩ := hx;rw [if_pos ⟨i, j, Lk _, hi, hlt, j2, j3, j4⟩]
   rw [if_neg hx, Qo1 hf hb hN n (i + 2) (by omega) (by omega) (by omega)]
   by_cases hy : ∃ i' j, i + 2 ≤ i' ∧ i' % 2 = 0 ∧ i' < v.Items.length ∧ j < i' ∧ j % 2 = 0 ∧ AL v i' j
   ·rw [if_pos hy];obtain ⟨i', j, a1, a2, a3⟩ := hy;rw [if_pos ⟨i', j, by omega, a2, a3⟩]
   rw [if_neg hy, if_neg]
   rintro ⟨i', j, a1, a2, a3, a4, a5, a6⟩
   by_cases he : i' = i
   ·subst he; exact hx ⟨j, by omega, a4, a5, a6⟩
   exact hy ⟨i', j, by omega, a2, a3, a4, a5, a6⟩
  rw [if_neg (by omega), if_neg]
  rintro ⟨i', j, a1, a2, a3, _⟩; omega
theorem Qvm (v : Q0) : Q77 v = 0 ∨ Q77 v = 16 := by
 unfold Q77;split
 ·exact .inl rfl
 split
 ·exact .inr rfl
 exact .inl rfl
open Classical in
theorem Qwl (N : Nat) (v : Q0) (hf : Fine v) (hk : v.Kind = 23) (hb : v.sz < 1000000000) (hN : v.sz + 5 < N) : Vs N v.Items = some (decide (Q77 v = 16)) := by
 have hs := v.sz_eq;have hl := Q0.szs_len v.Items;have h0 := Qo1 hf hb (show v.sz < N by omega) N 0 (by omega) (by omega) (by omega);rw [show ((0 : Nat) : Int) = 0 from rfl] at h0;unfold Vs;rw [h0]
 have hkey : Q77 v = 16 ↔ ∃ i j, 2 ≤ i ∧ i % 2 = 0 ∧ i < v.Items.length ∧ j < i ∧ j % 2 = 0 ∧ AL v i j := by
  unfold Q77;rw [if_neg (fun h => h hk)];split
  ·rename_i hx; exact ⟨fun _ => hx, fun _ => rfl⟩
  rename_i hx; exact ⟨fun h => (by cases h), fun h => absurd h hx⟩
 by_cases hx : ∃ i' j, 0 ≤ i' ∧ i' % 2 = 0 ∧ i' < v.Items.length ∧ j < i' ∧ j % 2 = 0 ∧ AL v i' j
 ·rw [if_pos hx];obtain ⟨i, j, a1, a2, a3, a4, a5, a6⟩ := hx;rw [decide_eq_true (hkey.2 ⟨i, j, by omega, a2, a3, a4, a5, a6⟩)]
 rw [if_neg hx, decide_eq_false];rw [hkey]
 rintro ⟨i, j, a1, a2, a3, a4, a5, a6⟩
 exact hx ⟨i, j, by omega, a2, a3, a4, a5, a6⟩
theorem Qkd (N : Nat) (v : Q0) : Va N v = some (Q0x v) := by
 rw [← Qgh v];unfold Va Q9i;simp only [Q9, J6, Q01, Q09]
 by_cases h1 : v.Text ≠ []
 ·rw [if_pos h1, if_pos h1]
 rw [if_neg h1, if_neg h1]
 by_cases h2 : v.Kind = 24
 ·have e : Q3 .eql v.Kind 24 = true := by rw [J6]; exact h2
  simp only [e, if_pos h2, Mg, Lf, if_false]
 have e : Q3 .eql v.Kind 24 = false := Bool.eq_false_iff.2 (by rw [ne_eq, J6]; exact h2);simp only [e, if_neg h2, Bh, if_true];split
 ·rfl
 split
 ·rfl
 by_cases h3 : v.Kind = 23
 ·rw [if_neg (by simp [h3]), if_pos h3]
 rw [if_pos h3, if_neg h3]
theorem Qc3 {R : Q0 → Int → Option Int} {N : Nat} {v : Q0} {m : Int} (hf : Fine v) (hb : v.sz < 1000000000) (hN : v.sz + 5 < N) (hm : 1 ≤ m ∧ m ≤ 32) (hR : ∀ y ∈ v.Items, R y (m - 1) = some (Vv y (m - 1))) : ∀ (n i : Nat), i ≤ v.Items.length → v.Items.length - i < n →
  Zr R N v m n (i : Int) = some (Q0v (v.Items.drop i) v.Kind v.N' (m - 1) (Q77 v))
 | 0, i, _, h => by omega
 | n + 1, i, hi, hn => by
  have hs := v.sz_eq;have hl := Q0.szs_len v.Items;simp only [Zr, Q9, Wm, J6, Q01, Qh, Zs, Z1 (m - 1) (show _ by omega)]
  by_cases h : i < v.Items.length
  ·rw [if_pos (by omega), La h, Ln h, Q0v];simp only [Lb, hR _ (Lp h)];rw [Z1 _ (by omega)];have ih := Qc3 (N := N) hf hb hN hm hR n (i + 1) (by omega) (by omega);rw [show ((i : Int) + 1) = ((i + 1 : Nat) : Int) by push_cast; rfl, ih]
   by_cases h24 : v.Kind = 24
   ·rw [if_pos h24]
    by_cases hw : IntKind.u64.wrap v.Items[i].Kind ≠ v.N'
    ·rw [if_pos hw, if_pos ⟨h24, hw⟩]
    rw [if_neg hw, if_neg (show ¬ (v.Kind = 24 ∧ IntKind.u64.wrap v.Items[i].Kind ≠ v.N') from fun hh => hw hh.2)]
    by_cases hc : Vv v.Items[i] (m - 1) ≠ 0
    ·rw [if_pos hc, if_pos hc]
    rw [if_neg hc, if_neg hc]
   rw [if_neg h24, if_neg (show ¬ (v.Kind = 24 ∧ IntKind.u64.wrap v.Items[i].Kind ≠ v.N') from fun hh => h24 hh.1)]
   by_cases hc : Vv v.Items[i] (m - 1) ≠ 0
   ·rw [if_pos hc, if_pos hc]
   rw [if_neg hc, if_neg hc]
  rw [if_neg (by omega), Lm (by omega), Q0v]
  by_cases h23 : v.Kind = 23
  ·rw [if_pos h23, Qwl N v hf h23 hb hN];simp only [Lb]
   rcases Qvm v with h | h
   ·rw [h]; rfl
   rw [h]; rfl
  rw [if_neg h23];unfold Q77;rw [if_pos h23]
theorem Qc1 : ∀ (N : Nat) (v : Q0) (m : Int), Fine v → v.sz + 300050 < N → v.sz < 1000000000 → 0 ≤ m → m ≤ 32 → Xd N v m = some (Vv v m)
 | 0, v, m, _, h, _, _, _ => by omega
 | N + 1, v, m, hv, h, h2, m0, m1 => by
  have hs := v.sz_eq;have hl := Q0.szs_len v.Items;rw [Q7a];have ht := hv.text;simp only [Xd, Ji, Q9, Wm, Q9m, Q7c, J6, Qh, Q9f N v hv.num (show v.Text.length < N by omega) (by omega), Qkd, Lb];split
  ·rfl
  rename_i h1
  by_cases h25 : v.Kind > 25
  ·rw [if_pos h25, if_pos (show 25 < v.Kind from h25)]
  rw [if_neg h25, if_neg (show ¬ 25 < v.Kind from h25)];split
  ·rfl
  by_cases hm0 : m = 0
  ·rw [if_pos hm0, if_pos hm0]
  rw [if_neg hm0, if_neg hm0]
  cases Q0x v with
  | false => rfl
  | true =>
   simp only [Mg, Lf, if_false, Me]
   by_cases hlen : 1000 < v.Items.length
   ·rw [if_pos (by omega), if_pos hlen]
   rw [if_neg (by omega), if_neg hlen];have := Qc3 (R := Xd N) (N := N) (v := v) (m := m) hv h2 (by omega) ⟨by omega, m1⟩ (fun y hy => Qc1 N y (m - 1) (hv.items y hy) (by have := Q0.szs_mem _ y hy; omega) (by have := Q0.szs_mem _ y hy; omega) (by omega) (by omega)) N 0 (by omega) (by omega);exact this
theorem Q74 (N : Nat) (v : Q0) (m : Int) (hv : Fine v) (h : v.sz + 300050 < N) (h2 : v.sz < 1000000000) : Xi N v m = some (Vc v m) := by
 simp only [Xi, Q9, Wm, Q9m, Vc]
 by_cases h1 : m < 0
 ·rw [if_pos h1, if_pos (show Q8m m = false from decide_eq_false (by omega))]
 by_cases h3 : m > 32
 ·rw [if_neg h1, if_pos h3, if_pos (show Q8m m = false from decide_eq_false (by omega))]
 rw [if_neg h1, if_neg h3, if_neg (show ¬ (Q8m m = false) by rw [show Q8m m = true from decide_eq_true (by omega)]; simp), Qc1 N v m hv h h2 (by omega) (by omega)]; rfl
end
end Go.Av
namespace Go.Av
noncomputable section
open Go.Proofs
set_option maxRecDepth 100000
theorem Qgf : ∀ (l : List Q0) (k n m : Int), (∀ x ∈ l, Vv x m = 0 ∧ (k = 24 → IntKind.u64.wrap x.Kind = n)) → Q0v l k n m 0 = 0
 | [], _, _, _, _ => by rw [Q0v]
 | x :: l, k, n, m, h => by
  obtain ⟨h1, h2⟩ := h x (by simp);rw [Q0v, if_neg (fun hh => hh.2 (h2 hh.1)), if_neg (by simp [h1])];exact Qgf l k n m (fun y hy => h y (by simp [hy]))
theorem Qsh {k n : Int} {l : List Q0} (h24 : k = 24 → 1 ≤ n ∧ n ≤ 24) (h0 : k ≠ 24 → n = 0) (h25 : k = 25 → l.length = 2) (h23 : k = 23 → l.length % 2 = 0) : Q0x ⟨k, n, [], l⟩ = true := by
 unfold Q0x Q9i;simp only [Q9, Q09, J6, Q01, Qfb, Qh];rw [if_neg (by simp)]
 by_cases e : k = 24
 ·rw [if_pos e, if_pos (h24 e).1];have := (h24 e).2;simp [Q7c]; exact this
 rw [if_neg e, if_neg (by simp [h0 e])]
 by_cases e5 : k = 25
 ·rw [if_pos e5];simp [J6, h25 e5]
 rw [if_neg e5]
 by_cases e3 : k = 23
 ·rw [if_pos e3];have := h23 e3;simp [J6, Int.tmod_eq_emod_of_nonneg]; omega
 rw [if_neg e3]; rfl
end
end Go.Av
namespace Go.Av
noncomputable section
open Go.Proofs
set_option maxRecDepth 100000
end
end Go.Av
namespace Go.Av
noncomputable section
open Go.Proofs
set_option maxRecDepth 100000
end
end Go.Av
namespace Go.Av
noncomputable section
open Go.Proofs
set_option maxRecDepth 100000
def Q6y (code : Int) (v : Q0) (b : List UInt8) : Bool :=
 if (ofS code).Items = false then Q38 code v else if (ofS code).Width = 0 then decide (v.Items.length = 0)
 else decide ((ofS code).Width = 4 ∨ (v.Items.length < 256 ∧ b.length + 1 < 256))
def Jn (code : Int) (v : Q0) (b : List UInt8) : List UInt8 :=
 if (ofS code).Items = false then (Qy9 code v).1 else if (ofS code).Sized = false then []
 else Q6w (b.length + (ofS code).Width.toNat) (ofS code).Width.toNat ++ (Q6w v.Items.length (ofS code).Width.toNat ++ b)
def Qmq (c : Int) (l : List (Q0 × List UInt8)) : Bool := l.all fun p => Q6y c p.1 p.2
def Q34 (k : Int) (l : List (Q0 × List UInt8)) : Int := ((Uy k).find? (fun c => Qmq c l)).getD 0
def Q8g (c : Int) : UInt8 := UInt8.ofNat c.toNat
def Zfl (n : Int) (l : List (Q0 × List UInt8)) : List UInt8 := Q8g (Q34 n l) :: (l.map fun p => Jn (Q34 n l) p.1 p.2).flatten
def Z5c (k n : Int) (is : List Q0) (l : List (List UInt8 × List UInt8)) : List UInt8 := if k = 24 then Zfl n (is.zip (l.map (·.1))) else if k = 25 then [] else (l.map (·.2)).flatten
def Zel (v : Q0) (b : List UInt8) (l : List (List UInt8 × List UInt8)) : List UInt8 := if v.Kind = 25 then 0 :: (l.map (·.2)).flatten else Q8g (Q34 v.Kind [(v, b)]) :: Jn (Q34 v.Kind [(v, b)]) v b
mutual
def Q0.enc : Q0 → List UInt8 × List UInt8
 | .mk k n t is => (Z5c k n is (Q0.encs is), Zel ⟨k, n, t, is⟩ (Z5c k n is (Q0.encs is)) (Q0.encs is))
def Q0.encs : List Q0 → List (List UInt8 × List UInt8)
 | [] => []
 | v :: l => v.enc :: Q0.encs l
end
def Q0.inn (v : Q0) : List UInt8 := v.enc.1
def Q0.byt (v : Q0) : List UInt8 := v.enc.2
theorem Qmc : ∀ l, Q0.encs l = l.map Q0.enc
 | [] => rfl
 | v :: l => by rw [Q0.encs, Qmc l]; rfl
def Q0.prs (v : Q0) : List (Q0 × List UInt8) := v.Items.map fun x => (x, x.inn)
def Q0.elm (v : Q0) : Int := Q34 v.N' v.prs
def Q0.cod (v : Q0) : Int := Q34 v.Kind [(v, v.inn)]
theorem Z19 (l : List Q0) : l.zip ((l.map Q0.enc).map (·.1)) = l.map fun x => (x, x.inn) := by
 induction l with
 | nil => rfl
 | cons x l ih => simp only [Mn, List.zip_cons_cons, ih]; rfl
theorem Qls (v : Q0) : v.inn = if v.Kind = 24 then Q8g v.elm :: (v.Items.map fun x => Jn v.elm x x.inn).flatten else if v.Kind = 25 then [] else (v.Items.map Q0.byt).flatten := by
 obtain ⟨k, n, t, is⟩ := v;unfold Q0.inn;rw [Q0.enc, Qmc];simp only [Z5c, Z19, Q0.elm, Q0.prs, Zfl];simp only [Cj];rfl
theorem Qtc (v : Q0) : v.byt = if v.Kind = 25 then 0 :: (v.Items.map Q0.byt).flatten else Q8g v.cod :: Jn v.cod v v.inn := by
 obtain ⟨k, n, t, is⟩ := v;unfold Q0.byt Q0.cod Q0.inn;rw [Q0.enc, Qmc];simp only [Zel, Cj];rfl
theorem Qj1 {k : Int} {l : List (Q0 × List UInt8)} (h : ∃ c ∈ Uy k, Qmq c l = true) : Q34 k l ∈ Uy k ∧ Qmq (Q34 k l) l = true := by
 unfold Q34
 cases hf : (Uy k).find? (fun c => Qmq c l) with
 | some c => exact ⟨List.mem_of_find?_eq_some hf, by simpa using List.find?_some hf⟩
 | none =>
  obtain ⟨c, h1, h2⟩ := h;have := List.find?_eq_none.1 hf c h1;exact absurd h2 this
def Q3e (k : Int) : Int := (Uy k).getLastD 0
def Qs0 (k : Nat) : Bool := !(decide (1 ≤ k)) || ((Uy k).contains (Q3e k) && ((k == 25) || (if (ofS (Q3e k)).Items then decide ((ofS (Q3e k)).Width = 4) && (ofS (Q3e k)).Sized else if (ofS (Q3e k)).Sized then decide ((ofS (Q3e k)).Width = 4) else decide ((ofS (Q3e k)).Code ≠ 65) && (decide ((ofS (Q3e k)).Width = 0 ∧ (Gt k).1 = 0 ∧ (Gt k).2 = false) || (decide ((ofS (Q3e k)).Width = 1) && decide (8 = (Gt k).1 ∨ (Gt k).1 = 1 ∧ (Gt k).2 = false)) || decide (1 < (ofS (Q3e k)).Width)))))
theorem Quq : ((List.range 26).all Qs0) = true := by decide +kernel
theorem Qdm {k : Int} (h : 1 ≤ k ∧ k ≤ 25) : Qs0 k.toNat = true := Lq.1 Quq k.toNat (by simp; omega)
theorem Quv {v : Q0} (hn : okU v.N') (h : Vq v = 0) : Q3e v.Kind ∈ Uy v.Kind ∧ Q38 (Q3e v.Kind) v = true := by
 obtain ⟨c1, c2, c3, c4, c5, c6, c7⟩ := Q23 h;have hb := Qdm (k := v.Kind) (by omega);unfold Qs0 at hb;rw [show ((v.Kind.toNat : Nat) : Int) = v.Kind by omega] at hb;simp only [Mx, Ni, decide_eq_false_iff_not, Le, Nf, beq_iff_eq] at hb
 rcases hb with hb | ⟨hm, hb⟩
 ·omega
 refine ⟨hm, ?_⟩;obtain ⟨d1, d2, d3⟩ := Q7m _ _ hm;have hw := Qrd _ d1;have hi := Q3s hw (by omega)
 rcases hb with hb | hb
 ·omega
 rw [hi] at hb;simp only [Lf, if_false] at hb
 have hs : Q4w (ofS (Q3e v.Kind)) v = true := by
  unfold Q4w
  by_cases hz : (ofS (Q3e v.Kind)).Sized = true
  ·rw [if_pos hz] at hb
   have h4 : (ofS (Q3e v.Kind)).Width = 4 := by simpa using hb
   obtain ⟨_, _, _, h65⟩ := hw.sized hi hz;rw [if_neg h65, if_pos hz];simp [h4]
  rw [if_neg hz] at hb;simp only [Le, Mx, decide_eq_true_eq] at hb;obtain ⟨h65, hb⟩ := hb;rw [if_neg h65, if_neg hz];have hnum := c3;unfold Q7b at hnum;simp only [Le] at hnum;have hf := hnum.1
  rcases hb with (⟨w0, b0, b1⟩ | ⟨w1, hb⟩) | w2
  ·rw [if_pos w0];rw [b0, b1] at hf;unfold Q1d at hf;simp at hf ⊢;have := hn.1;omega
  ·rw [if_neg (by omega), if_pos w1, d3]
   rcases hb with hb | ⟨b1, b2⟩
   ·rw [← hb] at hf; exact hf
   rw [b1, b2] at hf;rw [b2];unfold Q1d at hf ⊢;simp at hf ⊢;omega
  rw [if_neg (by omega), if_neg (by omega)]
 unfold Q38;simp [d1, d3, h, hs]
end
end Go.Av
namespace Go.Av
noncomputable section
open Go.Proofs
set_option maxRecDepth 100000
theorem Qek : ∀ (l : List Q0) (k n m e : Int), Q0v l k n m e = 0 → e = 0 ∧ ∀ x ∈ l, Vv x m = 0 ∧ (k = 24 → IntKind.u64.wrap x.Kind = n)
 | [], _, _, _, _, h => ⟨by simpa [Q0v] using h, fun x hx => by cases hx⟩
 | x :: l, k, n, m, e, h => by
  rw [Q0v] at h;split at h
  ·cases h
  rename_i h1;split at h
  ·rename_i h2; exact absurd h h2
  rename_i h2;obtain ⟨i1, i2⟩ := Qek l k n m e h;refine ⟨i1, fun y hy => ?_⟩
  rcases Mf.1 hy with rfl | hy
  ·exact ⟨Lu h2, fun hk => Lu fun hn => h1 ⟨hk, hn⟩⟩
  exact i2 y hy
theorem Q5i {v : Q0} (h : Q0x v = true) : v.Text = [] ∧ (v.Kind = 24 → 1 ≤ v.N' ∧ v.N' ≤ 24) ∧ (v.Kind ≠ 24 → v.N' = 0) ∧ (v.Kind = 25 → v.Items.length = 2) ∧ (v.Kind = 23 → v.Items.length % 2 = 0) := by
 unfold Q0x Q9i at h;simp only [Q9, Q09, J6, Q01, Qfb, Qh] at h;split at h
 ·cases h
 rename_i h1
 have h1 : v.Text = [] := by simpa using h1
 refine ⟨h1, ?_⟩;split at h
 ·rename_i h2;split at h
  ·rename_i h3
   have h4 : v.N' ≤ 24 := by
    have : Q3 .leq v.N' 24 = true := by simpa using h
    rw [Q7c] at this; exact this
   exact ⟨fun _ => ⟨h3, h4⟩, fun h => absurd h2 h, fun h => by omega, fun h => by omega⟩
  cases h
 rename_i h2;split at h
 ·cases h
 rename_i h3
 have h3 : v.N' = 0 := by simpa using h3
 refine ⟨fun h => absurd h h2, fun _ => h3, ?_, ?_⟩
 ·intro h5;rw [if_pos h5] at h
  have : Q3 .eql (v.Items.length : Int) 2 = true := by simpa using h
  rw [J6] at this; omega
 intro h5;rw [if_neg (by omega), if_pos h5] at h
 have : Q3 .eql ((v.Items.length : Int).tmod 2) 0 = true := by simpa using h
 rw [J6, Cb (by omega)] at this; omega
theorem Q0m {v : Q0} {m : Int} (h : Vv v m = 0) : (1 ≤ v.Kind ∧ v.Kind ≤ 21 ∧ Vq v = 0) ∨
  (22 ≤ v.Kind ∧ v.Kind ≤ 25 ∧ m ≠ 0 ∧ Q0x v = true ∧ v.Items.length ≤ 1000 ∧ Q77 v = 0 ∧ ∀ x ∈ v.Items, Vv x (m - 1) = 0 ∧ (v.Kind = 24 → IntKind.u64.wrap x.Kind = v.N')) := by
 rw [Q7a] at h;split at h
 ·cases h
 split at h
 ·cases h
 split at h
 ·exact .inl ⟨by omega, by omega, h⟩
 split at h
 ·cases h
 split at h
 ·cases h
 rename_i hs;split at h
 ·cases h
 obtain ⟨h1, h2⟩ := Qek _ _ _ _ _ h;exact .inr ⟨by omega, by omega, by assumption, by simpa using hs, by omega, h1, h2⟩
theorem Qbj {v : Q0} {m : Int} (h : Vv v m = 0) : 1 ≤ v.Kind ∧ v.Kind ≤ 25 := by
 rcases Q0m h with ⟨h1, h2, _⟩ | ⟨h1, h2, _⟩ <;> omega
theorem Qel {v : Q0} {m : Int} (h : Vv v m = 0) : IntKind.u64.wrap v.Kind = v.Kind := by
 have := Qbj h;rw [Z12]; omega
theorem Qqw {k : Int} (h : 22 ≤ k ∧ k ≤ 24) : Q3e k ∈ Uy k ∧ (ofS (Q3e k)).Items = true ∧ (ofS (Q3e k)).Width = 4 := by
 have hb := Qdm (k := k) (by omega);unfold Qs0 at hb;rw [show ((k.toNat : Nat) : Int) = k by omega] at hb;simp only [Mx, Ni, decide_eq_false_iff_not, Le, Nf, beq_iff_eq] at hb
 rcases hb with hb | ⟨hm, hb⟩
 ·omega
 obtain ⟨d1, d2, d3⟩ := Q7m _ _ hm
 have hi : (ofS (Q3e k)).Items = true := by rw [(Qrd _ d1).items, d3]; simp; omega
 rcases hb with hb | hb
 ·omega
 rw [if_pos hi] at hb;simp only [Le, decide_eq_true_eq] at hb;exact ⟨hm, hi, hb.1⟩
theorem Qkz {v : Q0} {m : Int} (hf : Fine v) (h : Vv v m = 0) (hk : v.Kind ≠ 25) (b : List UInt8) : Q3e v.Kind ∈ Uy v.Kind ∧ Q6y (Q3e v.Kind) v b = true := by
 rcases Q0m h with ⟨h1, h2, h3⟩ | ⟨h1, h2, _⟩
 ·obtain ⟨g1, g2⟩ := Quv hf.num h3;obtain ⟨f1, f2, _⟩ := Q8v g2;refine ⟨g1, ?_⟩;unfold Q6y;rw [if_pos (Q3s (Qrd _ f1) (by omega))]; exact g2
 obtain ⟨g1, g2, g3⟩ := Qqw (k := v.Kind) (by omega);refine ⟨g1, ?_⟩;unfold Q6y;rw [if_neg (by simp [g2]), if_neg (by omega)];simp [g3]
theorem Qyu {v : Q0} {m : Int} (hf : Fine v) (h : Vv v m = 0) (hk : v.Kind = 24) : v.elm ∈ Uy v.N' ∧ ∀ x ∈ v.Items, Q6y v.elm x x.inn = true := by
 rcases Q0m h with ⟨h1, h2, h3⟩ | ⟨h1, h2, h3, h4, h5, h6, h7⟩
 ·omega
 obtain ⟨s1, s2, s3, s4, s5⟩ := Q5i h4;have hn := s2 hk
 have hkx : ∀ x ∈ v.Items, x.Kind = v.N' := fun x hx => by
  have := (h7 x hx).2 hk;rw [Qel (h7 x hx).1] at this; exact this
 have hlast : Q3e v.N' ∈ Uy v.N' := by
  have hb := Qdm (k := v.N') (by omega);unfold Qs0 at hb;rw [show ((v.N'.toNat : Nat) : Int) = v.N' by omega] at hb;simp only [Mx, Ni, decide_eq_false_iff_not, Le, Nf] at hb
  rcases hb with hb | ⟨hm, _⟩
  ·omega
  exact hm
 obtain ⟨g1, g2⟩ := Qj1 (k := v.N') (l := v.prs) ⟨Q3e v.N', hlast, by
  unfold Qmq Q0.prs;rw [List.all_map, Lq];intro x hx;have hkk := hkx x hx;have := (Qkz (hf.items x hx) (h7 x hx).1 (by omega) x.inn).2;rw [hkk] at this
  exact this⟩
 refine ⟨g1, fun x hx => ?_⟩;have := Lq.1 g2 (x, x.inn) (by unfold Q0.prs; exact Mw.2 ⟨x, hx, rfl⟩);exact this
theorem Qt7 {v : Q0} {m : Int} (hf : Fine v) (h : Vv v m = 0) (hk : v.Kind ≠ 25) : v.cod ∈ Uy v.Kind ∧ Q6y v.cod v v.inn = true := by
 obtain ⟨l1, l2⟩ := Qkz hf h hk v.inn;obtain ⟨g1, g2⟩ := Qj1 (k := v.Kind) (l := [(v, v.inn)]) ⟨Q3e v.Kind, l1, by simp [Qmq, l2]⟩;exact ⟨g1, by unfold Q0.cod; simpa [Qmq] using g2⟩
mutual
def Q0.wgt : Q0 → Nat
 | .mk _ _ t is => t.length + 30 + Q0.wgts is
def Q0.wgts : List Q0 → Nat
 | [] => 0
 | v :: l => v.wgt + Q0.wgts l
end
theorem Q0.wgt_eq (v : Q0) : v.wgt = v.Text.length + 30 + Q0.wgts v.Items := by cases v; simp only [Q0.wgt]
theorem Qi5 : ∀ (l : List Q0), ∀ x ∈ l, x.wgt ≤ Q0.wgts l
 | v :: l, x, hx => by
  simp only [Q0.wgts]
  rcases Mf.1 hx with rfl | hx
  ·omega
  have := Qi5 l x hx; omega
theorem Qoq (code : Int) : 0 ≤ (ofS code).Width ∧ (ofS code).Width.toNat ≤ 16 := by
 cases h : ofB code with
 | false => rw [Qhy code h]; decide
 | true =>
  have hw := Qrd code h
  cases hi : (ofS code).Items with
  | false =>
   cases hw.shape hi with
   | sized w hs hw' h12 hk2 hc => rw [hw']; omega
   | wide hs hw' hk2 hc => rw [hw']; decide
   | num w hs hw' hh ht hc hbb => rw [hw']; omega
  | true =>
   obtain ⟨h1, h2⟩ := Q6d h hi
   cases hs : (ofS code).Sized with
   | true => have := (h1 hs).1; omega
   | false =>
    have : (ofS code).Width = 0 := (Qs9 (P := fun t => t.2.2.2.2 = true → t.2.2.2.1 = false → t.2.2.1 = 0) (B := fun k => !(Us k).2.2.2.2 || ((Us k).2.2.2.1 || decide ((Us k).2.2.1 = 0))) (by decide +kernel) (fun k hk h1 h2 => by simpa [h1, h2] using hk) h) hi hs;omega
theorem Z11 (code : Int) (v : Q0) : (Qy9 code v).1.length ≤ v.Text.length + 16 := by
 unfold Qy9;split
 ·simp
 split
 ·simp
 rename_i hf
 have hf : Q38 code v = true := by simpa using hf
 have := Qb2 hf;have := Qoq code;simp only [];split at * <;> omega
theorem Qs1 (code : Int) (v : Q0) (b : List UInt8) : (Jn code v b).length ≤ v.Text.length + 16 + b.length := by
 unfold Jn;split
 ·have := Z11 code v; omega
 rename_i hi
 have hi : (ofS code).Items = true := by simpa using hi
 split
 ·simp
 rename_i hs
 have hs : (ofS code).Sized = true := by simpa using hs
 have hw : (ofS code).Width.toNat ≤ 4 := by
  cases h : ofB code with
  | false => rw [Qhy code h]; decide
  | true => have := (Q6d h hi).1 hs; omega
 simp [Jo]; omega
theorem Q4r (v : Q0) : v.inn.length ≤ 1 + Q0.wgts v.Items ∧ v.byt.length ≤ v.wgt ∧ ∀ c, (Jn c v v.inn).length + 1 ≤ v.wgt := by
 induction v using Q0.ind with
 | h v ih =>
  have s1 : ∀ (l : List Q0), (∀ x ∈ l, x.byt.length ≤ x.wgt) → (l.map Q0.byt).flatten.length ≤ Q0.wgts l := by
   intro l
   induction l with
   | nil => intro _; simp
   | cons x l ihl =>
    intro h;have h1 := h x (.head _);have h2 := ihl (fun y hy => h y (.tail _ hy));simp only [Mn, Mz, Lt, Q0.wgts]; omega
  have s2 : ∀ (c : Int) (l : List Q0), (∀ x ∈ l, ∀ c, (Jn c x x.inn).length + 1 ≤ x.wgt) → (l.map fun x => Jn c x x.inn).flatten.length ≤ Q0.wgts l := by
   intro c l
   induction l with
   | nil => intro _; simp
   | cons x l ihl =>
    intro h;have h1 := h x (.head _) c;have h2 := ihl (fun y hy => h y (.tail _ hy));simp only [Mn, Mz, Lt, Q0.wgts]; omega
  have hin : v.inn.length ≤ 1 + Q0.wgts v.Items := by
   rw [Qls];split
   ·have := s2 v.elm v.Items (fun x hx => (ih x hx).2.2);simp only [Lz]; omega
   split
   ·simp
   have := s1 v.Items (fun x hx => (ih x hx).2.1);omega
  have hd : ∀ c, (Jn c v v.inn).length + 1 ≤ v.wgt := fun c => by
   have := Qs1 c v v.inn;rw [v.wgt_eq]; omega
  refine ⟨hin, ?_, hd⟩;rw [Qtc];split
  ·have := s1 v.Items (fun x hx => (ih x hx).2.1);rw [v.wgt_eq]; simp only [Lz]; omega
  have := hd v.cod;simp only [Lz]; omega
end
end Go.Av
namespace Go.Av
noncomputable section
open Go.Proofs
set_option maxRecDepth 100000
theorem of0 : ofB 0 = true ∧ (ofS 0).Kind = 25 ∧ (ofS 0).Items = true := by decide +kernel
theorem Qyd {code : Int} (h : ofB code = true) (hi : (ofS code).Items = true) (hs : (ofS code).Sized = false) : (ofS code).Width = 0 :=
 (Qs9 (P := fun t => t.2.2.2.2 = true → t.2.2.2.1 = false → t.2.2.1 = 0) (B := fun k => !(Us k).2.2.2.2 || ((Us k).2.2.2.1 || decide ((Us k).2.2.1 = 0))) (by decide +kernel) (fun k hk h1 h2 => by simpa [h1, h2] using hk) h) hi hs
theorem Z1m {v x : Q0} (hx : x ∈ v.Items) : x.wgt ≤ v.wgt := by
 have := Qi5 _ x hx;rw [v.wgt_eq]; omega
end
end Go.Av
namespace Go.Av
noncomputable section
open Go.Proofs
set_option maxRecDepth 100000
def Q4n (v : Q0) : Int := if nnS v = true then (if v.Kind = 11 then 2143289344 else 9221120237041090560) else v.N'
mutual
def Q0.nrm : Q0 → Q0
 | .mk k n t is => ⟨k, Q4n ⟨k, n, t, is⟩, t, Q0.nrms is⟩
def Q0.nrms : List Q0 → List Q0
 | [] => []
 | v :: l => v.nrm :: Q0.nrms l
end
theorem Quh : ∀ l, Q0.nrms l = l.map Q0.nrm
 | [] => rfl
 | v :: l => by rw [Q0.nrms, Quh l]; rfl
theorem Qar (v : Q0) : v.nrm = ⟨v.Kind, Q4n v, v.Text, v.Items.map Q0.nrm⟩ := by cases v; rw [Q0.nrm, Quh]
theorem Q2l (v : Q0) : v.nrm.Kind = v.Kind := by rw [Qar]
theorem Q8e (v : Q0) : v.nrm.Text = v.Text := by rw [Qar]
theorem Q06 (v : Q0) : v.nrm.Items = v.Items.map Q0.nrm := by rw [Qar]
theorem Q5q (v : Q0) : v.nrm.N' = Q4n v := by rw [Qar]
theorem Z9v (x : Int) : Q3 .neq x 0 = decide (x ≠ 0) := by rw [Mq, Q01]; simp
theorem Q92 (v : Q0) : nnS v = ((decide (v.Kind = 11) && (decide (Q2n .u64 (Q5a .u64 v.N' 23) 255 = 255) && decide (Q41 .u64 v.N' 41 ≠ 0))) || (decide (v.Kind = 12) && (decide (Q2n .u64 (Q5a .u64 v.N' 52) 2047 = 2047) && decide (Q41 .u64 v.N' 12 ≠ 0)))) := by
 have h := Qzo 0 v;unfold Zj at h;simp only [Q9, J6] at h
 by_cases k1 : v.Kind = 11
 ·have k2 : ¬ v.Kind = 12 := by omega
  rw [if_pos k1] at h;split at h
  ·rename_i h1;simp only [Lc] at h;rw [← h];rw [Z9v];simp [k1, h1]
  rename_i h1;simp only [Lc] at h;rw [← h];simp [k1, h1]
 rw [if_neg k1] at h
 by_cases k2 : v.Kind = 12
 ·rw [if_pos k2] at h;split at h
  ·rename_i h1;simp only [Lc] at h;rw [← h];rw [Z9v];simp [k2, h1]
  rename_i h1;simp only [Lc] at h;rw [← h];simp [k2, h1]
 rw [if_neg k2] at h;simp only [Lc] at h;rw [← h];simp [k1, k2]
theorem Qdd {v : Q0} (h : nnS v = true) : v.Kind = 11 ∨ v.Kind = 12 := by
 rw [Q92] at h;simp only [Mx, Le, decide_eq_true_eq] at h;omega
theorem Qf5 {v w : Q0} (h1 : v.Kind = w.Kind) (h2 : v.N' = w.N') : nnS v = nnS w := by rw [Q92, Q92, h1, h2]
theorem Qhi (k : Int) (t : List UInt8) (is : List Q0) (h : k = 11 ∨ k = 12) : nnS ⟨k, if k = 11 then 2143289344 else 9221120237041090560, t, is⟩ = true := by
 rcases h with rfl | rfl
 ·exact (Qf5 (w := ⟨11, 2143289344, [], []⟩) rfl rfl).trans (by rw [Q92]; decide)
 exact (Qf5 (w := ⟨12, 9221120237041090560, [], []⟩) rfl rfl).trans (by rw [Q92]; decide)
theorem Qu5 {v : Q0} (h : nnS v = true) : Q4n v = if v.Kind = 11 then 2143289344 else 9221120237041090560 := by unfold Q4n; rw [if_pos h]
theorem Qie {v : Q0} (h : nnS v = false) : Q4n v = v.N' := by unfold Q4n; rw [if_neg (by simp [h])]
theorem Qyj (v : Q0) : nnS v.nrm = nnS v := by
 cases h : nnS v with
 | true =>
  have hk := Qdd h;rw [Qar];unfold Q4n;rw [if_pos h];exact Qhi _ _ _ hk
 | false =>
  rw [← h];refine Qf5 (Q2l v) ?_;rw [Q5q];unfold Q4n;rw [if_neg (by simp [h])]
theorem Qsr (v : Q0) : v.nrm.nrm = v.nrm := by
 induction v using Q0.ind with
 | h v ih =>
  apply Q0.ext'
  ·rw [Q2l]
  ·rw [Q5q, Q5q]
   have h1 : Q4n v.nrm = if nnS v = true then (if v.Kind = 11 then 2143289344 else 9221120237041090560) else Q4n v := by
    conv => lhs; unfold Q4n
    rw [Qyj, Q2l, Q5q]
   rw [h1];split
   ·rename_i h; unfold Q4n; rw [if_pos h]
   rfl
  ·rw [Q8e]
  rw [Q06, Q06, Cj];apply Bd;intro x hx;exact ih x hx
theorem Qeg (v : Q0) : v.nrm.sz = v.sz := by
 induction v using Q0.ind with
 | h v ih =>
  have hl : ∀ l : List Q0, (∀ x ∈ l, x.nrm.sz = x.sz) → Q0.szs (l.map Q0.nrm) = Q0.szs l := by
   intro l
   induction l with
   | nil => intro _; rfl
   | cons x l ihl => intro h; simp only [Mn, Q0.szs, h x (.head _), ihl (fun y hy => h y (.tail _ hy))]
  rw [Q0.sz_eq, Q06, hl _ ih, v.sz_eq]
theorem Qim (v : Q0) : v.nrm.wgt = v.wgt := by
 induction v using Q0.ind with
 | h v ih =>
  have hl : ∀ l : List Q0, (∀ x ∈ l, x.nrm.wgt = x.wgt) → Q0.wgts (l.map Q0.nrm) = Q0.wgts l := by
   intro l
   induction l with
   | nil => intro _; rfl
   | cons x l ihl => intro h; simp only [Mn, Q0.wgts, h x (.head _), ihl (fun y hy => h y (.tail _ hy))]
  rw [Q0.wgt_eq, Q06, hl _ ih, v.wgt_eq, Q8e]
theorem Qwz {v : Q0} (h : okU v.N') : okU (Q4n v) := by
 unfold Q4n;split
 ·split <;> exact ⟨by omega, by omega⟩
 exact h
theorem Qhu {v : Q0} (h : Fine v) : Fine v.nrm := by
 induction v using Q0.ind with
 | h v ih =>
  refine .mk _ (by rw [Q5q]; exact Qwz h.num) (by rw [Q8e]; exact h.text) (fun x hx => ?_);rw [Q06] at hx;obtain ⟨y, hy, rfl⟩ := Mw.1 hx;exact ih y hy (h.items y hy)
theorem Qab {v : Q0} (h : v.Kind ≠ 11 ∧ v.Kind ≠ 12) : Q4n v = v.N' := by
 unfold Q4n;rw [if_neg (fun hn => by have := Qdd hn; omega)]
theorem Qla : ∀ (n : Nat) (a b : Q0), a.sz ≤ n → Q4b a.nrm b.nrm = true → Q4b a b = true
 | 0, a, b, h, _ => by have := a.sz_eq; omega
 | n + 1, a, b, h, hh => by
  have hs := a.sz_eq;rw [Qf1] at hh ⊢;simp only [Q2l, Q8e, Q06, Q5q, Qyj, Mh, Le, Mx, decide_eq_true_eq] at hh ⊢;obtain ⟨h1, h2, h3, h4, h5⟩ := hh;refine ⟨h1, h2, h3, ?_, ?_⟩
  ·rcases h4 with h4 | h4
   ·cases na : nnS a <;> cases nb : nnS b
    ·left; rw [Qie na, Qie nb] at h4; exact h4
    ·rw [Qie na, Qu5 nb] at h4;have hk := Qdd nb
     have : nnS a = true := by
      rw [← Qhi a.Kind [] [] (by omega)];refine Qf5 rfl ?_;show a.N' = _;rw [h4, h1]
     rw [na] at this; cases this
    ·rw [Qu5 na, Qie nb] at h4;have hk := Qdd na
     have : nnS b = true := by
      rw [← Qhi b.Kind [] [] (by omega)];refine Qf5 rfl ?_;show b.N' = _;rw [← h4, h1]
     rw [nb] at this; cases this
    right; exact ⟨rfl, rfl⟩
   right; exact h4
  have hl : ∀ (l m : List Q0), Q0.szs l ≤ n → Q3v (l.map Q0.nrm) (m.map Q0.nrm) = true → Q3v l m = true := by
   intro l
   induction l with
   | nil => intro m _ _; rfl
   | cons x l ihl =>
    intro m hz hm;simp only [Q0.szs] at hz
    cases m with
    | nil => simp [Q3v] at hm
    | cons y m =>
     simp only [Mn, Q3v, Le] at hm ⊢;exact ⟨Qla n x y (by omega) hm.1, ihl m (by omega) hm.2⟩
  exact hl _ _ (by omega) h5
theorem Qw1 {v : Q0} (h : Q77 v = 0) : Q77 v.nrm = 0 := by
 unfold Q77 at h ⊢;rw [Q2l];split
 ·rfl
 rename_i hk;rw [if_neg hk] at h;split at h
 ·cases h
 rename_i hne;rw [if_neg]
 rintro ⟨i, j, h1, h2, h3, h4, h5, x, y, hx, hy, ha⟩
 rw [Q06, Mh] at h3;rw [Q06, Ll] at hx hy
 cases hxi : v.Items[i]? with
 | none => rw [hxi] at hx; cases hx
 | some x' =>
  cases hyi : v.Items[j]? with
  | none => rw [hyi] at hy; cases hy
  | some y' =>
   rw [hxi] at hx; rw [hyi] at hy;cases hx; cases hy;exact hne ⟨i, j, h1, h2, h3, h4, h5, x', y', hxi, hyi, Qla _ x' y' (Lk _) ha⟩
theorem Qsz {v : Q0} (h : Q7b v.Kind v.N' = true) : Q7b v.Kind (Q4n v) = true := by
 unfold Q4n;split
 ·rename_i hn
  rcases Qdd hn with hk | hk <;> rw [hk] <;> decide
 exact h
theorem Qr4 {v : Q0} (h : Vq v = 0) : Vq v.nrm = 0 := by
 obtain ⟨c1, c2, c3, c4, c5, c6, c7⟩ := Q23 h;unfold Vq at h ⊢;simp only [Q2l, Q8e, Q06, Q5q, c4, Ba] at h ⊢;rw [Qsz c3];rw [c3] at h;exact h
theorem Qr9 {v : Q0} (hk : 22 ≤ v.Kind) (h : Q0x v = true) : Q0x v.nrm = true := by
 obtain ⟨s1, s2, s3, s4, s5⟩ := Q5i h
 have : v.nrm = ⟨v.Kind, v.N', [], v.Items.map Q0.nrm⟩ := by rw [Qar, Qab (by omega), s1]
 rw [this];exact Qsh s2 s3 (fun h => by rw [Mh]; exact s4 h) (fun h => by rw [Mh]; exact s5 h)
theorem Qdl (v : Q0) : ∀ m : Int, Vv v m = 0 → Vv v.nrm m = 0 := by
 induction v using Q0.ind with
 | h v ih =>
  intro m h
  rcases Q0m h with ⟨k1, k2, k3⟩ | ⟨k1, k2, k3, k4, k5, k6, k7⟩
  ·rw [Q7a, Q2l, if_neg (by omega), if_neg (by omega), if_pos k2];exact Qr4 k3
  rw [Q7a, Q2l, if_neg (by omega), if_neg (by omega), if_neg (by omega), if_neg k3, Qr9 k1 k4, if_neg (by simp), Q06, Mh, if_neg (by omega), Qw1 k6, Q5q, Qab (by omega)];refine Qgf _ _ _ _ (fun x hx => ?_);obtain ⟨y, hy, rfl⟩ := Mw.1 hx;refine ⟨ih y hy _ (k7 y hy).1, fun hk => ?_⟩;rw [Q2l]; exact (k7 y hy).2 hk
theorem Qtd {R : Q0 → Option Q0} {N : Nat} {v : Q0} {c : Int} (hb : v.sz < 1000000000) (hR : ∀ y ∈ v.Items, R y = some y.nrm) : ∀ (n i : Nat), i ≤ v.Items.length → v.Items.length - i < n →
  Ww R N v c n (i : Int) ((v.Items.take i).map Q0.nrm) = some ⟨v.Kind, c, v.Text, v.Items.map Q0.nrm⟩
 | 0, i, _, h => by omega
 | n + 1, i, hi, hn => by
  have hs := v.sz_eq;have hl := Q0.szs_len v.Items;simp only [Ww, Q9, Wm, Qh, Zs]
  by_cases h : i < v.Items.length
  ·rw [if_pos (by omega), La h];simp only [Lb, hR _ (Lp h)];rw [if_pos (by rw [Mu, Mh, Mc]; omega), Z1 _ (by omega)]
   have e : (v.Items.take i).map Q0.nrm ++ [v.Items[i].nrm] = (v.Items.take (i + 1)).map Q0.nrm := by
    rw [Ma h, Nr]; rfl
   rw [e]
   exact_mod_cast Qtd (N := N) hb hR n (i + 1) (by omega) (by omega)
  rw [if_neg (by omega), Lw (by omega)]
theorem Qm2 : ∀ (N : Nat) (v : Q0), v.sz < N → v.sz < 1000000000 → Wy N v = some v.nrm
 | 0, v, h, _ => by omega
 | N + 1, v, h, h2 => by
  have hs := v.sz_eq;have hl := Q0.szs_len v.Items
  have hL : ∀ c, W4 (Wy N) N v c = some ⟨v.Kind, c, v.Text, v.Items.map Q0.nrm⟩ := fun c =>
   Qtd (R := Wy N) (N := N) (v := v) h2 (fun y hy => Qm2 N y (by have := Q0.szs_mem _ y hy; omega) (by have := Q0.szs_mem _ y hy; omega)) N 0 (by omega) (by omega)
  rw [Qar];show Q03 (Wy N) N v = _;simp only [Q03, Vy, U1, hL, Q9, J6, Q01];have hd := Q92 v;unfold Q4n
  by_cases k1 : v.Kind = 11
  ·have k2 : ¬ v.Kind = 12 := by omega
   simp only [k1, decide_true, Mo, show decide ((11 : Int) = 12) = false from rfl, Nw, Ca] at hd;simp only [if_pos k1, if_neg k2]
   by_cases q1 : Q2n .u64 (Q5a .u64 v.N' 23) 255 = 255 <;> by_cases q2 : Q41 .u64 v.N' 41 ≠ 0 <;> simp [hd, q1, q2]
  simp only [if_neg k1]
  by_cases k2 : v.Kind = 12
  ·simp only [k2, show decide ((12 : Int) = 11) = false from rfl, decide_true, Mo, Nw, Nq] at hd;simp only [if_pos k2]
   by_cases q1 : Q2n .u64 (Q5a .u64 v.N' 52) 2047 = 2047 <;> by_cases q2 : Q41 .u64 v.N' 12 ≠ 0 <;> simp [hd, q1, q2]
  simp only [k1, k2, decide_false, Nw, Ca] at hd;simp [hd, k2]
end
end Go.Av
namespace Go.Av
noncomputable section
open Go.Proofs
set_option maxRecDepth 100000
theorem Qgc {R : Q0 → Option Q0} {N : Nat} {v : Q0} (hb : v.sz < 1000000000) (hR : ∀ y ∈ v.Items, R y = some y) : ∀ (n i : Nat), i ≤ v.Items.length → v.Items.length - i < n → Z4 R N v n (i : Int) (v.Items.take i) = some v
 | 0, i, _, h => by omega
 | n + 1, i, hi, hn => by
  have hs := v.sz_eq;have hl := Q0.szs_len v.Items;simp only [Z4, Q9, Wm, Qh, Zs]
  by_cases h : i < v.Items.length
  ·rw [if_pos (by omega), La h];simp only [Lb, hR _ (Lp h)];rw [if_pos (by rw [Mu, Mc]; omega), Z1 _ (by omega), ← Ma h]
   exact_mod_cast Qgc (N := N) hb hR n (i + 1) (by omega) (by omega)
  rw [if_neg (by omega), Lw (by omega)];cases v; rfl
theorem Qgy : ∀ (N : Nat) (v : Q0), v.sz < N → v.sz < 1000000000 → Yz N v = some v
 | 0, v, h, _ => by omega
 | N + 1, v, h, h2 => by
  have hs := v.sz_eq;have hl := Q0.szs_len v.Items;have := Qgc (R := Yz N) (N := N) (v := v) h2 (fun y hy => Qgy N y (by have := Q0.szs_mem _ y hy; omega) (by have := Q0.szs_mem _ y hy; omega)) N 0 (by omega) (by omega);exact this
theorem Qhf {R : Q0 → Option Q0} {N : Nat} {v w : Q0} {c : Int} (hb : v.sz < 1000000000) (hR : ∀ y ∈ v.Items, R y = some y.nrm) : ∀ (n i : Nat), i ≤ v.Items.length → v.Items.length - i < n →
  Yu R N v w c n (i : Int) ((v.Items.take i).map Q0.nrm ++ v.Items.drop i) = some ⟨w.Kind, c, w.Text, v.Items.map Q0.nrm⟩
 | 0, i, _, h => by omega
 | n + 1, i, hi, hn => by
  have hs := v.sz_eq;have hl := Q0.szs_len v.Items
  have hlen : ((v.Items.take i).map Q0.nrm).length = i := by rw [Mh, Mc]; omega
  simp only [Yu, Q9, Wm, Qh, Zs]
  by_cases h : i < v.Items.length
  ·rw [if_pos (by omega), La h];simp only [Lb, hR _ (Lp h)];rw [Ly (by omega), hlen, Bs, Ln h];simp only [Nb, Lb, Ms];rw [Z1 _ (by omega), List.set_append_right _ _ (by omega), hlen, Bs, List.set_cons_zero]
   have e : (v.Items.take i).map Q0.nrm ++ v.Items[i].nrm :: v.Items.drop (i + 1) = (v.Items.take (i + 1)).map Q0.nrm ++ v.Items.drop (i + 1) := by
    rw [Ma h, Nr, Bp]; rfl
   rw [e]
   exact_mod_cast Qhf (N := N) hb hR n (i + 1) (by omega) (by omega)
  rw [if_neg (by omega), Lw (by omega), Lm (by omega), Nz]
theorem Qwk {n : Int} (h : okU n) : ((Q2n .u64 n 2139095040 = 2139095040) = (Q2n .u64 (Q5a .u64 n 23) 255 = 255)) ∧ ((Q2n .u64 n 8388607 ≠ 0) = (Q41 .u64 n 41 ≠ 0)) ∧
  ((Q2n .u64 n 9218868437227405312 = 9218868437227405312) = (Q2n .u64 (Q5a .u64 n 52) 2047 = 2047)) ∧ ((Q2n .u64 n 4503599627370495 ≠ 0) = (Q41 .u64 n 12 ≠ 0)) := by
 obtain ⟨h0, h1⟩ := h;obtain ⟨n, rfl⟩ := Dm h0
 have h1 : n < 18446744073709551616 := by omega
 have e1 := Z46 n 8 23 h1 (by decide) (by decide) (by decide);have e2 := Z46 n 11 52 h1 (by decide) (by decide) (by decide);rw [show ((2 ^ 8 - 1 : Nat) : Int) = 255 from rfl, show (((2 ^ 8 - 1) * 2 ^ 23 : Nat) : Int) = 2139095040 from rfl, show ((23 : Nat) : Int) = 23 from rfl] at e1;rw [show ((2 ^ 11 - 1 : Nat) : Int) = 2047 from rfl, show (((2 ^ 11 - 1) * 2 ^ 52 : Nat) : Int) = 9218868437227405312 from rfl, show ((52 : Nat) : Int) = 52 from rfl] at e2;exact ⟨e1.symm, Z3j n h1, e2.symm, Z3f n h1⟩
theorem Qbv : ∀ (N : Nat) (v : Q0), Fine v → v.sz + 1 < N → v.sz < 1000000000 → Y8 N v = some v.nrm
 | 0, v, _, h, _ => by omega
 | N + 1, v, hf, h, h2 => by
  have hs := v.sz_eq;have hl := Q0.szs_len v.Items
  have hL : ∀ c, Y0 (Y8 N) N v v c = some ⟨v.Kind, c, v.Text, v.Items.map Q0.nrm⟩ := fun c => by
   have := Qhf (R := Y8 N) (N := N) (v := v) (w := v) (c := c) h2 (fun y hy => Qbv N y (hf.items y hy) (by have := Q0.szs_mem _ y hy; omega) (by have := Q0.szs_mem _ y hy; omega)) N 0 (by omega) (by omega);simpa [Y0] using this
  rw [Qar];show Ug (Y8 N) N v = _;obtain ⟨b1, b2, b3, b4⟩ := Qwk hf.num;simp only [Ug, Qgy N v (by omega) h2, Lb, Xu, Yq, Xr, hL, Q9, J6, Q01, b1, b2, b3, b4];have hd := Q92 v;unfold Q4n
  by_cases k1 : v.Kind = 11
  ·have k2 : ¬ v.Kind = 12 := by omega
   simp only [k1, decide_true, Mo, show decide ((11 : Int) = 12) = false from rfl, Nw, Ca] at hd;simp only [if_pos k1, if_neg k2]
   by_cases q1 : Q2n .u64 (Q5a .u64 v.N' 23) 255 = 255 <;> by_cases q2 : Q41 .u64 v.N' 41 ≠ 0 <;> simp [hd, q1, q2]
  simp only [if_neg k1]
  by_cases k2 : v.Kind = 12
  ·simp only [k2, show decide ((12 : Int) = 11) = false from rfl, decide_true, Mo, Nw, Nq] at hd;simp only [if_pos k2]
   by_cases q1 : Q2n .u64 (Q5a .u64 v.N' 52) 2047 = 2047 <;> by_cases q2 : Q41 .u64 v.N' 12 ≠ 0 <;> simp [hd, q1, q2]
  simp only [k1, k2, decide_false, Nw, Ca] at hd;simp [hd, k2]
end
end Go.Av
