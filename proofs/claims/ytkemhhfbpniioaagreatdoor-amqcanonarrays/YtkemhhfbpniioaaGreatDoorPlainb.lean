/- The law. Part of a proof of a given statement: for every input the law returns true and the arguments read as before; no condition beyond the given row. -/
import Derived.Test.YtkemhhfbpniioaaGreatDoorPlain
import Derived.Test.YtkemhhfbpniioaaGreatDoorLiftF2
namespace Go.Av
noncomputable section
open Go.Proofs
set_option maxRecDepth 100000
def Qoa (k : Nat) : Bool := !(Wb k).2.2.2.2 || (if (Wb k).2.2.2.1 then decide (((Wb k).2.2.1 = 1 ∨ (Wb k).2.2.1 = 4) ∧ 22 ≤ (Wb k).2.1 ∧ (Wb k).2.1 ≤ 24) else decide ((Wb k).2.1 = 25 ∨ (Wb k).2.1 = 22))
theorem Qkl : ((List.range 40).all Qoa) = true := by decide +kernel
theorem Qlj {P : Int × Int × Int × Bool × Bool → Prop} {B : Nat → Bool} (hB : ((List.range 40).all B) = true) (hP : ∀ k, B k = true → P (Wb k)) {code : Int} (h : ofB code = true) : P (ofT code) := by
 have h1 : bsI code < 40 ∧ Uj (bsI code) = code := by simpa [ofB] using h
 have := List.all_eq_true.1 hB (bsI code) (by simpa using h1.1)
 have e : ofT code = Wb (bsI code) := by unfold ofT; rw [if_pos h]
 rw [e]; exact hP _ this
theorem Vj {code : Int} (h : ofB code = true) (hi : (ofS code).Items = true) : ((ofS code).Sized = true → ((ofS code).Width = 1 ∨ (ofS code).Width = 4) ∧ 22 ≤ (ofS code).Kind ∧ (ofS code).Kind ≤ 24) ∧ ((ofS code).Sized = false → (ofS code).Kind = 25 ∨ (ofS code).Kind = 22) :=
 Qlj (P := fun t => t.2.2.2.2 = true → (t.2.2.2.1 = true → (t.2.2.1 = 1 ∨ t.2.2.1 = 4) ∧ 22 ≤ t.2.1 ∧ t.2.1 ≤ 24) ∧ (t.2.2.2.1 = false → t.2.1 = 25 ∨ t.2.1 = 22)) Qkl (fun k hk h1 => by
  simp only [Qoa, h1, Bool.not_true, Bool.false_or] at hk
  refine ⟨fun h2 => ?_, fun h2 => ?_⟩
  ·rw [h2] at hk; simpa using hk
  ·rw [h2] at hk; simpa using hk) h hi
theorem Q76 {rd : List UInt8 → Rd} {lo : Nat} (hg : Qrz rd) (hlo : ∀ s, s.length ≤ 600000 → (rd s).2.2 = 0 → (lo : Int) ≤ (rd s).2.1 ∧ (rd s).1.sz + 1000 * lo ≤ 1 + 1000 * (rd s).2.1.toNat) : ∀ (c : Nat) (s : List UInt8) (acc : List Q0), s.length ≤ 600000 → (U9 rd c s acc).2 = 0 →
  ∃ k, k ≤ s.length ∧ (U9 rd c s acc).1.2 = s.drop k ∧ Q0.szs (U9 rd c s acc).1.1 + 1000 * (lo * c) ≤ Q0.szs acc + c + 1000 * k ∧ (U9 rd c s acc).1.1.length = acc.length + c ∧ lo * c ≤ k
 | 0, s, acc, _, _ => ⟨0, by omega, by simp [U9], by simp [U9], by simp [U9], by simp⟩
 | c + 1, s, acc, hs, h => by
  rw [U9] at h ⊢
  split at h
  ·rename_i he; exact absurd h he
  ·rename_i he
   rw [if_neg he]
   obtain ⟨g0, g0'⟩ := hlo s hs (Classical.byContradiction he)
   obtain ⟨g1, g2, g3⟩ := hg s hs (Classical.byContradiction he)
   obtain ⟨k, k1, k2, k3, k4, k5⟩ := Q76 hg hlo c (s.drop (rd s).2.1.toNat) (acc ++ [(rd s).1]) (by rw [List.length_drop]; omega) h
   rw [List.length_drop] at k1
   refine ⟨(rd s).2.1.toNat + k, by omega, by rw [k2, List.drop_drop], ?_, by rw [k4]; simp; omega, by rw [Nat.mul_succ]; omega⟩
   rw [Q0.szs_app] at k3
   rw [Nat.mul_succ]
   simp only [Q0.szs] at k3
   omega
theorem Q4u {data : Int → List UInt8 → Rd} (h : ∀ code, Qrz (data code)) : Qrz (Yq data) ∧ ∀ s, s.length ≤ 600000 → (Yq data s).2.2 = 0 → ((1 : Nat) : Int) ≤ (Yq data s).2.1 ∧ (Yq data s).1.sz + 1000 * 1 ≤ 1 + 1000 * (Yq data s).2.1.toNat := by
 have key : ∀ s, s.length ≤ 600000 → (Yq data s).2.2 = 0 → 1 ≤ (Yq data s).2.1 ∧ (Yq data s).2.1 ≤ s.length ∧ (Yq data s).1.sz + 1000 * 1 ≤ 1 + 1000 * (Yq data s).2.1.toNat := by
  intro s hs he
  cases s with
  | nil => simp [Yq] at he
  | cons b t =>
   simp only [Yq] at he ⊢
   split at he
   ·rename_i h1; exact absurd he h1
   ·rename_i h1
    rw [if_neg h1]
    simp only [List.length_cons] at hs ⊢
    obtain ⟨g1, g2, g3⟩ := h b.toNat t (by omega) (Classical.byContradiction h1)
    refine ⟨by omega, by push_cast; omega, ?_⟩
    have : ((data (b.toNat : Int) t).2.1 + 1).toNat = (data (b.toNat : Int) t).2.1.toNat + 1 := by omega
    rw [this]; omega
 exact ⟨fun s hs he => by obtain ⟨a, b, c⟩ := key s hs he; exact ⟨by omega, b, by omega⟩, fun s hs he => ⟨(key s hs he).1, (key s hs he).2.2⟩⟩
theorem Qji {k num : Int} {q : (List Q0 × List UInt8) × Int} {tot : Nat} (h : (Qcw k num q tot).2.2 = 0) : q.2 = 0 ∧ q.1.2 = [] ∧ Gn ⟨k, num, [], q.1.1⟩ = 0 ∧ Qcw k num q tot = (⟨k, num, [], q.1.1⟩, (tot : Int), 0) := by
 unfold Qcw at h ⊢
 split at h
 ·simp only [] at h
  split at h
  ·cases h
  ·rename_i h1 _; exact absurd h h1
 split at h
 ·cases h
 split at h
 ·rename_i h3; exact absurd h h3
 ·rename_i h1 h2 h3
  rw [if_neg h1, if_neg h2, if_neg h3]
  exact ⟨Classical.byContradiction h1, Classical.byContradiction h2, Classical.byContradiction h3, rfl⟩
theorem Qh9 {data : Int → List UInt8 → Rd} {c : Qh} {s : List UInt8} (h : (Q55 data c s).2.2 = 0) : ∃ (body : List UInt8) (num : Int) (q : (List Q0 × List UInt8) × Int) (cnt : Nat) (rest : List UInt8), s.length ≥ c.Width.toNat + Q17 (s.take c.Width.toNat) ∧ body = (s.drop c.Width.toNat).take (Q17 (s.take c.Width.toNat)) ∧ c.Width.toNat ≤ body.length ∧ cnt ≤ 1000 ∧
  ((c.Kind ≠ 24 ∧ num = 0 ∧ rest = body.drop c.Width.toNat ∧ q = U9 (Yq data) cnt rest []) ∨ (c.Kind = 24 ∧ ∃ b : UInt8, body.drop c.Width.toNat = b :: rest ∧ ofB (b.toNat : Int) = true ∧ b.toNat ≠ 0 ∧ num = (ofS (b.toNat : Int)).Kind ∧ q = U9 (data (b.toNat : Int)) cnt rest [])) ∧
  (c.Kind = 23 → cnt % 2 = 0) ∧ (Qcw c.Kind num q (c.Width.toNat + Q17 (s.take c.Width.toNat))).2.2 = 0 ∧ Q55 data c s = Qcw c.Kind num q (c.Width.toNat + Q17 (s.take c.Width.toNat)) := by
 unfold Q55 at h ⊢
 split at h
 ·cases h
 rename_i h1; rw [if_neg h1]
 split at h
 ·cases h
 rename_i h2; rw [if_neg h2]
 unfold Qnt at h ⊢
 split at h
 ·cases h
 rename_i h3; rw [if_neg h3]
 split at h
 ·cases h
 rename_i h4; rw [if_neg h4]
 split at h
 ·cases h
 rename_i h5; rw [if_neg h5]
 split at h
 ·rename_i h6; rw [if_pos h6]
  cases hb : ((s.drop c.Width.toNat).take (Q17 (s.take c.Width.toNat))).drop c.Width.toNat with
  | nil => rw [hb] at h; cases h
  | cons b rest =>
   rw [hb] at h
   simp only [Qsn] at h ⊢
   split at h
   ·cases h
   rename_i h7; rw [if_neg h7]
   refine ⟨_, _, _, _, rest, by omega, rfl, by omega, by omega, .inr ⟨h6, b, hb, ?_, ?_, rfl, rfl⟩, fun hk => by omega, h, rfl⟩
   ·cases ho : ofB (b.toNat : Int) with
    | true => rfl
    | false => exact absurd (.inl ho) h7
   ·exact fun ho => h7 (.inr ho)
 ·rename_i h6; rw [if_neg h6]
  exact ⟨_, _, _, _, _, by omega, rfl, by omega, by omega, .inl ⟨h6, rfl, rfl, rfl⟩, fun hk => by
   apply Classical.byContradiction
   intro hn; exact h5 ⟨hk, hn⟩, h, rfl⟩
theorem ar1 {z lo c k r : Nat} (h : z + 1000 * (lo * c) ≤ 0 + c + 1000 * k) (hk : k ≤ r) (hc : c ≤ 1000) : z ≤ 1000 + 1000 * r := by omega
theorem Qd0 {code : Int} {s : List UInt8} (hs : s.length ≤ 600000) (h : (Q94 code s).2.2 = 0) : 0 ≤ (Q94 code s).2.1 ∧ (Q94 code s).2.1 ≤ s.length ∧ (Q94 code s).1.sz ≤ 1 + 1000 * (Q94 code s).2.1.toNat := by
 generalize hg : Q94 code s = g at h ⊢
 obtain ⟨x, n, e⟩ := g
 simp only at h
 subst h
 obtain ⟨h1, h2, h3, h4, h5, h6, h7⟩ := reads (by unfold Qsm; omega) hg
 refine ⟨h1, h2, ?_⟩
 rw [Q0.sz_eq, (Wx h5).2.2.2.1]
 simp only [Q0.szs]; omega
theorem Q8k : ∀ (m : Nat) (code : Int), Qrz (V4 m code) := by
 intro m
 induction m with
 | zero =>
  intro code s hs h
  rw [V4] at h ⊢
  split at h
  ·cases h
  rename_i h1; rw [if_neg h1]
  split at h
  ·rename_i h2; rw [if_pos h2]; exact Qd0 hs h
  ·cases h
 | succ m ih =>
  intro code s hs h
  obtain ⟨hrd, hr1⟩ := Q4u ih
  rw [V4] at h ⊢
  split at h
  ·cases h
  rename_i h1; rw [if_neg h1]
  split at h
  ·rename_i h2; rw [if_pos h2]; exact Qd0 hs h
  rename_i h2; rw [if_neg h2]
  split at h
  ·rename_i h3; rw [if_pos h3]
   unfold Qeh at h ⊢
   split at h
   ·rename_i h4; exact absurd h h4
   ·rename_i h4
    rw [if_neg h4]
    obtain ⟨k, k1, k2, k3, k4, k5⟩ := Q76 hrd hr1 2 s [] hs (Classical.byContradiction h4)
    simp only [k2, List.length_drop]
    refine ⟨by omega, by omega, ?_⟩
    rw [Q0.sz_eq]
    simp only [Q0.szs] at k3 ⊢
    omega
  rename_i h3; rw [if_neg h3]
  split at h
  ·rename_i h4; rw [if_pos h4]; simp only []; exact ⟨by omega, by omega, by rw [Q0.sz_eq]; simp [Q0.szs]⟩
  ·rename_i h4; rw [if_neg h4]
   obtain ⟨body, num, q, cnt, rest, p1, p2, p3, p4, p5, p6, p7, p8⟩ := Qh9 h
   obtain ⟨f1, f2, f3, f4⟩ := Qji p7
   rw [p8, f4]
   simp only []
   have hbl : body.length ≤ Q17 (s.take (ofS code).Width.toNat) := by rw [p2, List.length_take]; omega
   have hq : Q0.szs q.1.1 ≤ 1000 + 1000 * rest.length ∧ rest.length ≤ body.length := by
    rcases p5 with ⟨_, _, e1, e2⟩ | ⟨_, b, e0, _, _, _, e2⟩
    ·have hrl : rest.length ≤ body.length := by rw [e1, List.length_drop]; omega
     have hbl2 : body.length ≤ s.length := by rw [p2, List.length_take, List.length_drop]; omega
     rw [e2] at f1 ⊢
     obtain ⟨k, k1, k2, k3, k4, k5⟩ := Q76 hrd hr1 cnt rest [] (by omega) f1
     simp only [Q0.szs] at k3
     exact ⟨ar1 k3 k1 p4, hrl⟩
    ·have hrl : rest.length ≤ body.length := by
      have := congrArg List.length e0
      rw [List.length_drop, List.length_cons] at this; omega
     have hbl2 : body.length ≤ s.length := by rw [p2, List.length_take, List.length_drop]; omega
     rw [e2] at f1 ⊢
     obtain ⟨k, k1, k2, k3, k4, k5⟩ := Q76 (lo := 0) (ih _) (fun s hs he => ⟨(ih _ s hs he).1, by have := (ih _ s hs he).2.2; omega⟩) cnt rest [] (by omega) f1
     simp only [Q0.szs] at k3
     exact ⟨ar1 k3 k1 p4, hrl⟩
   clear p5
   refine ⟨by omega, by omega, ?_⟩
   have hob : ofB code = true := by
    cases ho : ofB code with
    | true => rfl
    | false => exact absurd ho h1
   have hit : (ofS code).Items = true := by
    cases ho : (ofS code).Items with
    | true => rfl
    | false => exact absurd ho h2
   have hsz : (ofS code).Sized = true := by
    cases ho : (ofS code).Sized with
    | true => rfl
    | false => exact absurd ho h4
   have hw := ((Vj hob hit).1 hsz).1
   rw [Q0.sz_eq]
   simp only [Int.toNat_natCast]
   omega
end
end Go.Av
namespace Go.Av
noncomputable section
open Go.Proofs
set_option maxRecDepth 100000
theorem Qt0 (n : Nat) : ((n : Int).tmod 2 ≠ 0) = (n % 2 ≠ 0) := by
 apply propext
 rw [Int.tmod_eq_emod_of_nonneg (by omega)]
 omega
end
end Go.Av
namespace Go.Av
noncomputable section
open Go.Proofs
set_option maxRecDepth 100000
theorem Ql6 (n m k : Nat) : n &&& (m * 2 ^ k) = ((n / 2 ^ k) &&& m) * 2 ^ k := by
 apply Nat.eq_of_testBit_eq
 intro i
 rw [Nat.testBit_and, Nat.testBit_mul_two_pow, Nat.testBit_mul_two_pow, Nat.testBit_and, Nat.testBit_div_two_pow]
 by_cases h : k ≤ i
 ·simp [h]
 ·simp [h]
theorem Qqz (n k : Nat) (h : k ≤ 64) : Q1d .u64 (n : Int) (k : Int) = ((n / 2 ^ k : Nat) : Int) := by
 have e : min (k : Int).toNat IntKind.u64.bits = k := by simp [IntKind.bits]; omega
 simp only [Q1d, e]
 rw [Int.fdiv_eq_ediv_of_nonneg _ (by exact_mod_cast Nat.zero_le _)]
 push_cast; rfl
theorem Qsf (n e k : Nat) (hn : n < 18446744073709551616) (hk : k ≤ 63) (he : (2 ^ e - 1) * 2 ^ k < 18446744073709551616) (he2 : 2 ^ e - 1 < 18446744073709551616) :
  (Jw .u64 (Q1d .u64 (n : Int) (k : Int)) ((2 ^ e - 1 : Nat) : Int) = ((2 ^ e - 1 : Nat) : Int)) = (Jw .u64 (n : Int) (((2 ^ e - 1) * 2 ^ k : Nat) : Int) = (((2 ^ e - 1) * 2 ^ k : Nat) : Int)) := by
 rw [Qqz n k (by omega), Q22 _ _ (Nat.lt_of_le_of_lt (Nat.div_le_self _ _) hn) he2, Q22 _ _ hn he, Ql6]
 apply propext
 have hp : 0 < 2 ^ k := Nat.two_pow_pos k
 constructor
 ·intro h
  have := Int.ofNat.inj h
  rw [this]
 ·intro h
  have := Nat.eq_of_mul_eq_mul_right hp (Int.ofNat.inj h)
  rw [this]
theorem Qrt (n : Nat) (hn : n < 18446744073709551616) : (Jw .u64 (n : Int) 8388607 ≠ 0) = (Ut .u64 (n : Int) 41 ≠ 0) := by
 have e : Ut .u64 (n : Int) 41 = ((n : Int) * 2199023255552) % 18446744073709551616 := by
  show IntKind.u64.wrap _ = _
  rw [Q8z]; rfl
 rw [show (8388607 : Int) = ((8388607 : Nat) : Int) from rfl, Q22 _ _ hn (by decide), e, show (8388607 : Nat) = 2 ^ 23 - 1 from rfl, Nat.and_two_pow_sub_one_eq_mod]
 apply propext; omega
theorem Qrm (n : Nat) (hn : n < 18446744073709551616) : (Jw .u64 (n : Int) 4503599627370495 ≠ 0) = (Ut .u64 (n : Int) 12 ≠ 0) := by
 have e : Ut .u64 (n : Int) 12 = ((n : Int) * 4096) % 18446744073709551616 := by
  show IntKind.u64.wrap _ = _
  rw [Q8z]; rfl
 rw [show (4503599627370495 : Int) = ((4503599627370495 : Nat) : Int) from rfl, Q22 _ _ hn (by decide), e, show (4503599627370495 : Nat) = 2 ^ 52 - 1 from rfl, Nat.and_two_pow_sub_one_eq_mod]
 apply propext; omega
theorem Qaa (N : Nat) (v : Q0) (h : okU v.N') : Xn N v = some (nnS v) := by
 rw [← Qpk 0 v]
 obtain ⟨h0, h1⟩ := h
 obtain ⟨n, hn⟩ := Int.eq_ofNat_of_zero_le h0
 rw [hn] at h1
 have h1 : n < 18446744073709551616 := by omega
 have e1 := Qsf n 8 23 h1 (by decide) (by decide) (by decide)
 have e2 := Qsf n 11 52 h1 (by decide) (by decide) (by decide)
 rw [show ((2 ^ 8 - 1 : Nat) : Int) = 255 from rfl, show (((2 ^ 8 - 1) * 2 ^ 23 : Nat) : Int) = 2139095040 from rfl, show ((23 : Nat) : Int) = 23 from rfl] at e1
 rw [show ((2 ^ 11 - 1 : Nat) : Int) = 2047 from rfl, show (((2 ^ 11 - 1) * 2 ^ 52 : Nat) : Int) = 9218868437227405312 from rfl, show ((52 : Nat) : Int) = 52 from rfl] at e2
 have l1 : Q8 .neq (Jw .u64 (n : Int) 8388607) 0 = Q8 .neq (Ut .u64 (n : Int) 41) 0 := by
  rw [Bool.eq_iff_iff, J0, J0, Qrt n h1]
 have l2 : Q8 .neq (Jw .u64 (n : Int) 4503599627370495) 0 = Q8 .neq (Ut .u64 (n : Int) 12) 0 := by
  rw [Bool.eq_iff_iff, J0, J0, Qrm n h1]
 unfold Xn Z6
 simp only [hn, l1, l2, Q9, V5, e1, e2]
 by_cases k1 : v.Kind = 11
 ·have k2 : ¬ v.Kind = 12 := by omega
  simp only [if_pos k1, if_neg k2]
  split
  ·split
   ·rename_i h; rw [h]
   ·rename_i h
    cases hc : Q8 .neq (Ut .u64 (n : Int) 41) 0 with
    | true => exact absurd hc h
    | false => rfl
  ·rfl
 ·simp only [if_neg k1]
theorem Q79 {R : Q0 → Q0 → Option Bool} {N : Nat} {a b : Q0} (hlen : a.Items.length = b.Items.length) (hb : a.Items.length < 4611686018427387904)
  (hR : ∀ y ∈ a.Items, ∀ z ∈ b.Items, R y z = some (Q0j y z)) : ∀ (n i : Nat), i ≤ a.Items.length → a.Items.length - i < n →
  Y5 R N a b n (i : Int) = some (Gm (a.Items.drop i) (b.Items.drop i)) ∧ Y8 R N a b n (i : Int) = some (Gm (a.Items.drop i) (b.Items.drop i))
 | 0, i, _, h => by omega
 | n + 1, i, h1, h2 => by
  simp only [Y5, Y8, Q9, Wm, Yg]
  by_cases hi : i < a.Items.length
  ·rw [if_pos (by omega), if_pos (by omega), X3, X3, List.getElem?_eq_getElem hi, List.getElem?_eq_getElem (show i < b.Items.length by omega)]
   simp only [Option.bind_some, hR _ (List.getElem_mem hi) _ (List.getElem_mem (show i < b.Items.length by omega))]
   rw [Z5 _ (by omega)]
   obtain ⟨ih1, ih2⟩ := Q79 (N := N) hlen hb hR n (i + 1) (by omega) (by omega)
   rw [List.drop_eq_getElem_cons hi, List.drop_eq_getElem_cons (show i < b.Items.length by omega), Gm]
   cases Q0j a.Items[i] b.Items[i] with
   | true =>
    simp only [Bool.not_true, Bool.false_eq_true, if_false, Bool.true_and]
    exact ⟨by exact_mod_cast ih1, by exact_mod_cast ih2⟩
   | false => simp
  ·rw [if_neg (by omega), if_neg (by omega), List.drop_of_length_le (by omega)]
   simp [Gm]
theorem Q7u : ∀ (N : Nat) (a b : Q0), Fine a → Fine b → a.sz < N → a.sz < 1000000000 → Yc N a b = some (Q0j a b)
 | 0, a, b, _, _, h, _ => by have := a.sz_eq; omega
 | N + 1, a, b, fa, fb, h, h2 => by
  have hs := a.sz_eq
  have hl := Q0.szs_len a.Items
  rw [Q8s]
  simp only [Yc, Vh, Q9, J0, Jh, Yg, Qaa N a fa.num, Qaa N b fb.num, Option.bind_some]
  by_cases e1 : a.Kind = b.Kind
  ·by_cases e3 : a.Text = b.Text
   ·by_cases e4 : a.Items.length = b.Items.length
    ·simp only [if_neg (show ¬ (a.Kind ≠ b.Kind) by simp [e1]), if_neg (show ¬ (a.Text ≠ b.Text) by simp [e3]), if_neg (show ¬ ((a.Items.length : Int) ≠ b.Items.length) by simp [e4])]
     obtain ⟨i1, i2⟩ := Q79 (N := N) (R := Yc N) e4 (by omega) (fun y hy z hz => Q7u N y z (fa.items y hy) (fb.items z hz) (by have := Q0.szs_mem _ y hy; omega) (by have := Q0.szs_mem _ y hy; omega)) N 0 (by omega) (by omega)
     rw [show ((0 : Nat) : Int) = 0 from rfl] at i1 i2
     rw [i1, i2, List.drop_zero, List.drop_zero]
     simp only [e1, e3, e4, decide_true, Bool.true_and]
     by_cases e2 : a.N' = b.N'
     ·simp [e2]
     ·simp only [e2, ne_eq, not_false_eq_true, if_true, decide_false, Bool.false_or]
      cases nnS a <;> cases nnS b <;> simp
    ·simp only [if_neg (show ¬ (a.Kind ≠ b.Kind) by simp [e1]), if_neg (show ¬ (a.Text ≠ b.Text) by simp [e3]), if_pos (show ((a.Items.length : Int) ≠ b.Items.length) by omega)]
     simp [e4]
     repeat' split
     all_goals rfl
   ·simp only [if_neg (show ¬ (a.Kind ≠ b.Kind) by simp [e1]), if_pos (show (a.Text ≠ b.Text) from e3)]
    simp [e3]
    repeat' split
    all_goals rfl
  ·rw [if_pos (by simpa using e1)]
   simp [e1]
end
end Go.Av
namespace Go.Av
noncomputable section
open Go.Proofs
set_option maxRecDepth 100000
theorem Qa3 {R : Q0 → Q0 → Option Bool} {N : Nat} {a b : Q0} (hlen : a.Items.length = b.Items.length) (hb : a.Items.length < 4611686018427387904)
  (hR : ∀ y ∈ a.Items, ∀ z, R y z = some (decide (y = z))) : ∀ (n i : Nat), i ≤ a.Items.length → a.Items.length - i < n →
  Yl R N a b n (i : Int) = some (decide (a.Items.drop i = b.Items.drop i))
 | 0, i, _, h => by omega
 | n + 1, i, h1, h2 => by
  simp only [Yl, Q9, Wm, Yg]
  by_cases hi : i < a.Items.length
  ·rw [if_pos (by omega), X3, X3, List.getElem?_eq_getElem hi, List.getElem?_eq_getElem (show i < b.Items.length by omega)]
   simp only [Option.bind_some, hR _ (List.getElem_mem hi)]
   rw [Z5 _ (by omega)]
   have ih := Qa3 (N := N) hlen hb hR n (i + 1) (by omega) (by omega)
   rw [List.drop_eq_getElem_cons hi, List.drop_eq_getElem_cons (show i < b.Items.length by omega)]
   by_cases he : a.Items[i] = b.Items[i]
   ·rw [← he]; simp only [decide_true, Bool.not_true, Bool.false_eq_true, if_false, List.cons.injEq, true_and]
    exact_mod_cast ih
   ·have hne : ¬ (a.Items[i] :: List.drop (i + 1) a.Items = b.Items[i] :: List.drop (i + 1) b.Items) := fun e => he (List.cons.inj e).1
    simp only [he, decide_false, Bool.not_false, if_true]
    rw [decide_eq_false hne]
  ·rw [if_neg (by omega), List.drop_of_length_le (by omega), List.drop_of_length_le (by omega)]
   simp
theorem Qa8 : ∀ (N : Nat) (a b : Q0), a.sz < N → a.sz < 1000000000 → Yu N a b = some (decide (a = b))
 | 0, a, b, h, _ => by have := a.sz_eq; omega
 | N + 1, a, b, h, h2 => by
  have hs := a.sz_eq
  have hl := Q0.szs_len a.Items
  simp only [Yu, Vm, Q9, J0, Jh, Yg]
  by_cases e1 : a.Kind = b.Kind
  ·by_cases e2 : a.N' = b.N'
   ·by_cases e3 : a.Text = b.Text
    ·by_cases e4 : a.Items.length = b.Items.length
     ·rw [if_neg (by simp [e1]), if_neg (by simp [e2]), if_neg (by simp [e3]), if_neg (by simp [e4])]
      have := Qa3 (N := N) (R := Yu N) e4 (by omega) (fun y hy z => Qa8 N y z (by have := Q0.szs_mem _ y hy; omega) (by have := Q0.szs_mem _ y hy; omega)) N 0 (by omega) (by omega)
      rw [show (0 : Int) = ((0 : Nat) : Int) from rfl, this]
      cases a; cases b; simp_all
     ·rw [if_neg (by simp [e1]), if_neg (by simp [e2]), if_neg (by simp [e3]), if_pos (by omega)]
      have : a ≠ b := fun e => e4 (by rw [e])
      simp [this]
    ·rw [if_neg (by simp [e1]), if_neg (by simp [e2]), if_pos (by simpa using e3)]
     have : a ≠ b := fun e => e3 (by rw [e])
     simp [this]
   ·rw [if_neg (by simp [e1]), if_pos (by simpa using e2)]
    have : a ≠ b := fun e => e2 (by rw [e])
    simp [this]
  ·rw [if_pos (by simpa using e1)]
   have : a ≠ b := fun e => e1 (by rw [e])
   simp [this]
open Classical in
theorem Qfo {N : Nat} {v : Q0} (hf : Fine v) (hb : v.sz < 1000000000) (hN : v.sz < N) {k0 : Int → Option Bool} {i : Nat} (hi : i < v.Items.length) (i2 : i % 2 = 0) : ∀ (n k : Nat), i - k < n → k % 2 = 0 → k ≤ i →
  Y4 N k0 v.Items (i : Int) n (k : Int) = if ∃ j, k ≤ j ∧ j < i ∧ j % 2 = 0 ∧ AL v i j then some true else k0 ((i + 2 : Nat) : Int)
 | 0, k, h, _, _ => by omega
 | n + 1, k, h, hk, hki => by
  have hs := v.sz_eq
  have hl := Q0.szs_len v.Items
  simp only [Y4, Q9, Wm, X3]
  by_cases hlt : k < i
  ·rw [if_pos (by omega), List.getElem?_eq_getElem hi, List.getElem?_eq_getElem (show k < v.Items.length by omega)]
   simp only [Option.bind_some]
   have hsz := Q0.szs_mem _ _ (List.getElem_mem hi)
   rw [Q7u N _ _ (hf.items _ (List.getElem_mem hi)) (hf.items _ (List.getElem_mem (show k < v.Items.length by omega))) (by omega) (by omega)]
   simp only [Option.bind_some]
   cases hal : Q0j v.Items[i] v.Items[k] with
   | true =>
    rw [if_pos rfl, if_pos ⟨k, Nat.le_refl _, hlt, hk, _, _, List.getElem?_eq_getElem hi, List.getElem?_eq_getElem (by omega), hal⟩]
   | false =>
    rw [if_neg (by simp), Z5 _ (by omega)]
    have := Qfo (k0 := k0) hf hb hN hi i2 n (k + 2) (by omega) (by omega) (by omega)
    rw [show ((k : Int) + 2) = ((k + 2 : Nat) : Int) by push_cast; rfl, this]
    by_cases hx : ∃ j, k + 2 ≤ j ∧ j < i ∧ j % 2 = 0 ∧ AL v i j
    ·rw [if_pos hx]
     obtain ⟨j, j1, j2, j3, j4⟩ := hx
     rw [if_pos ⟨j, by omega, j2, j3, j4⟩]
    ·rw [if_neg hx, if_neg]
     rintro ⟨j, j1, j2, j3, j4⟩
     by_cases hjk : j = k
     ·subst hjk
      obtain ⟨x, y, x1, y1, z1⟩ := j4
      rw [List.getElem?_eq_getElem hi] at x1
      rw [List.getElem?_eq_getElem (by omega)] at y1
      cases x1; cases y1
      rw [hal] at z1; cases z1
     ·exact hx ⟨j, by omega, j2, j3, j4⟩
  ·rw [if_neg (by omega), Z5 _ (by omega), if_neg (by rintro ⟨j, j1, j2, _⟩; omega)]
   push_cast; rfl
open Classical in
theorem Qfy {N : Nat} {v : Q0} (hf : Fine v) (hb : v.sz < 1000000000) (hN : v.sz < N) : ∀ (n i : Nat), v.Items.length - i < n → i % 2 = 0 → i ≤ v.Items.length + 2 →
  Za N v.Items n (i : Int) = some (if ∃ i' j, i ≤ i' ∧ i' % 2 = 0 ∧ i' < v.Items.length ∧ j < i' ∧ j % 2 = 0 ∧ AL v i' j then true else false)
 | 0, i, h, _, _ => by omega
 | n + 1, i, h, hi, hle => by
  have hs := v.sz_eq
  have hl := Q0.szs_len v.Items
  simp only [Za, Q9, Wm, Yg]
  by_cases hlt : i < v.Items.length
  ·rw [if_pos (by omega)]
   have h1 := Qfo (N := N) (k0 := Za N v.Items n) hf hb hN hlt hi N 0 (by omega) (by omega) (by omega)
   rw [show ((0 : Nat) : Int) = 0 from rfl] at h1
   rw [h1]
   by_cases hx : ∃ j, 0 ≤ j ∧ j < i ∧ j % 2 = 0 ∧ AL v i j
   ·rw [if_pos hx]
    obtain ⟨j, _, j2, j3, j4⟩ := hx
    rw [if_pos ⟨i, j, Nat.le_refl _, hi, hlt, j2, j3, j4⟩]
   ·rw [if_neg hx, Qfy hf hb hN n (i + 2) (by omega) (by omega) (by omega)]
    by_cases hy : ∃ i' j, i + 2 ≤ i' ∧ i' % 2 = 0 ∧ i' < v.Items.length ∧ j < i' ∧ j % 2 = 0 ∧ AL v i' j
    ·rw [if_pos hy]
     obtain ⟨i', j, a1, a2, a3⟩ := hy
     rw [if_pos ⟨i', j, by omega, a2, a3⟩]
    ·rw [if_neg hy, if_neg]
     rintro ⟨i', j, a1, a2, a3, a4, a5, a6⟩
     by_cases he : i' = i
     ·subst he; exact hx ⟨j, by omega, a4, a5, a6⟩
     ·exact hy ⟨i', j, by omega, a2, a3, a4, a5, a6⟩
  ·rw [if_neg (by omega), if_neg]
   rintro ⟨i', j, a1, a2, a3, _⟩; omega
theorem Qnl (v : Q0) : Gn v = 0 ∨ Gn v = 16 := by
 unfold Gn
 split
 ·exact .inl rfl
 ·split
  ·exact .inr rfl
  ·exact .inl rfl
open Classical in
theorem Qme (N : Nat) (v : Q0) (hf : Fine v) (hk : v.Kind = 23) (hb : v.sz < 1000000000) (hN : v.sz + 5 < N) : Ye N v.Items = some (decide (Gn v = 16)) := by
 have hs := v.sz_eq
 have hl := Q0.szs_len v.Items
 have h0 := Qfy hf hb (show v.sz < N by omega) N 0 (by omega) (by omega) (by omega)
 rw [show ((0 : Nat) : Int) = 0 from rfl] at h0
 unfold Ye
 rw [h0]
 have hkey : Gn v = 16 ↔ ∃ i j, 2 ≤ i ∧ i % 2 = 0 ∧ i < v.Items.length ∧ j < i ∧ j % 2 = 0 ∧ AL v i j := by
  unfold Gn
  rw [if_neg (fun h => h hk)]
  split
  ·rename_i hx; exact ⟨fun _ => hx, fun _ => rfl⟩
  ·rename_i hx; exact ⟨fun h => (by cases h), fun h => absurd h hx⟩
 by_cases hx : ∃ i' j, 0 ≤ i' ∧ i' % 2 = 0 ∧ i' < v.Items.length ∧ j < i' ∧ j % 2 = 0 ∧ AL v i' j
 ·rw [if_pos hx]
  obtain ⟨i, j, a1, a2, a3, a4, a5, a6⟩ := hx
  rw [decide_eq_true (hkey.2 ⟨i, j, by omega, a2, a3, a4, a5, a6⟩)]
 ·rw [if_neg hx, decide_eq_false]
  rw [hkey]
  rintro ⟨i, j, a1, a2, a3, a4, a5, a6⟩
  exact hx ⟨i, j, by omega, a2, a3, a4, a5, a6⟩
end
end Go.Av
namespace Go.Av
noncomputable section
open Go.Proofs
set_option maxRecDepth 100000
def Qp0 (k : Nat) : Bool := !(decide ((Wb k).2.1 = 25)) || decide ((Wb k).1 = 0)
theorem Qkc : ((List.range 40).all Qp0) = true := by decide +kernel
theorem Qt9 {code : Int} (h : ofB code = true) (hk : (ofS code).Kind = 25) : code = 0 := by
 have := Qlj (P := fun t => t.2.1 = 25 → t.1 = 0) Qkc (fun k hk h1 => by simpa [Qp0, h1] using hk) h hk
 rw [← (Q6q code h).code]; exact this
theorem Qh6 {d : Int → List UInt8 → Rd} {s : List UInt8} (he : (Yq d s).2.2 = 0) : ∃ b u, s = b :: u ∧ (d (b.toNat : Int) u).2.2 = 0 ∧ Yq d s = ((d (b.toNat : Int) u).1, (d (b.toNat : Int) u).2.1 + 1, 0) := by
 cases s with
 | nil => simp [Yq] at he
 | cons b u =>
  have h1 : (d (b.toNat : Int) u).2.2 = 0 := by
   simp only [Yq] at he
   split at he
   ·rename_i h1; exact absurd he h1
   ·rename_i h1; exact Classical.byContradiction h1
  refine ⟨b, u, rfl, h1, ?_⟩
  simp only [Yq]; rw [if_neg (by simp [h1])]
noncomputable def Qg7 (d : Int → List UInt8 → Rd) (code : Int) (s : List UInt8) : Rd := if (ofS code).Kind = 25 then Qeh (Yq d) s else if (ofS code).Sized = false then (⟨(ofS code).Kind, 0, [], []⟩, 0, 0) else Q55 d (ofS code) s
theorem Q8i {code : Int} (h1 : ofB code = true) (h2 : (ofS code).Items = false) (m : Nat) (s : List UInt8) : V4 m code s = Q94 code s := by
 cases m <;> simp only [V4, h1, h2, if_true, if_false, Bool.true_eq_false]
theorem Q61 {code : Int} (h1 : ofB code = true) (h2 : (ofS code).Items = true) (m : Nat) (s : List UInt8) : V4 (m + 1) code s = Qg7 (V4 m) code s := by
 simp only [V4, h1, h2, if_false, Bool.true_eq_false]; rfl
theorem Qh7 {m : Nat} {code : Int} {s : List UInt8} (he : (V4 m code s).2.2 = 0) : ofB code = true ∧ ((ofS code).Items = false ∨ (ofS code).Items = true ∧ ∃ k, m = k + 1) := by
 have h1 : ofB code = true := by
  cases h : ofB code with
  | true => rfl
  | false => cases m <;> simp [V4, h] at he
 refine ⟨h1, ?_⟩
 cases h2 : (ofS code).Items with
 | false => exact .inl rfl
 | true =>
  cases m with
  | zero => simp [V4, h1, h2] at he
  | succ m => exact .inr ⟨rfl, m, rfl⟩
theorem Q1t {rd : List UInt8 → Rd} {P : Q0 → Prop} (hP : ∀ s, s.length ≤ 300000 → (rd s).2.2 = 0 → P (rd s).1) : ∀ (c : Nat) (s : List UInt8) (acc : List Q0), s.length ≤ 300000 → (∀ x ∈ acc, P x) → (U9 rd c s acc).2 = 0 → (∀ x ∈ (U9 rd c s acc).1.1, P x) ∧ (U9 rd c s acc).1.1.length = acc.length + c
 | 0, s, acc, _, ha, _ => ⟨by simpa [U9] using ha, by simp [U9]⟩
 | c + 1, s, acc, hs, ha, h => by
  rw [U9] at h ⊢
  split at h
  ·rename_i he; exact absurd h he
  ·rename_i he
   rw [if_neg he]
   have := Q1t hP c (s.drop (rd s).2.1.toNat) (acc ++ [(rd s).1]) (by rw [List.length_drop]; omega) (fun x hx => by
    rcases List.mem_append.1 hx with hx | hx
    ·exact ha x hx
    ·rw [List.mem_singleton.1 hx]; exact hP s hs (Classical.byContradiction he)) h
   refine ⟨this.1, ?_⟩
   rw [this.2, List.length_append, List.length_singleton]; omega
theorem Q5z : ∀ (l : List Q0) (k n m : Int), (∀ x ∈ l, Yx x m = 0 ∧ (k = 24 → IntKind.u64.wrap x.Kind = n)) → Jz l k n m 0 = 0
 | [], _, _, _, _ => by rw [Jz]
 | x :: l, k, n, m, h => by
  obtain ⟨h1, h2⟩ := h x (by simp)
  rw [Jz, if_neg (fun hh => hh.2 (h2 hh.1)), if_neg (by simp [h1])]
  exact Q5z l k n m (fun y hy => h y (by simp [hy]))
theorem Qc9 {k n : Int} {l : List Q0} (h24 : k = 24 → 1 ≤ n ∧ n ≤ 24) (h0 : k ≠ 24 → n = 0) (h25 : k = 25 → l.length = 2) (h23 : k = 23 → l.length % 2 = 0) : Js ⟨k, n, [], l⟩ = true := by
 unfold Js Q5q
 simp only [Q9, Jh, V5, J0, Q9d, Yg]
 rw [if_neg (by simp)]
 by_cases e : k = 24
 ·rw [if_pos e, if_pos (h24 e).1]
  have := (h24 e).2
  simp [Q9g]; exact this
 ·rw [if_neg e, if_neg (by simp [h0 e])]
  by_cases e5 : k = 25
  ·rw [if_pos e5]
   simp [V5, h25 e5]
  ·rw [if_neg e5]
   by_cases e3 : k = 23
   ·rw [if_pos e3]
    have := h23 e3
    simp [V5, Int.tmod_eq_emod_of_nonneg]; omega
   ·rw [if_neg e3]; rfl
theorem Qbv {k n : Int} {l : List Q0} (h : k ≠ 23) : Gn ⟨k, n, [], l⟩ = 0 := by
 unfold Gn
 rw [if_pos h]
theorem Q59 {k n : Int} {l : List Q0} {m : Nat} (hk : 22 ≤ k ∧ k ≤ 25) (hl : l.length ≤ 1000) (hit : ∀ x ∈ l, Fine x ∧ Yx x m = 0 ∧ (k = 24 → IntKind.u64.wrap x.Kind = n)) (hkeys : Gn ⟨k, n, [], l⟩ = 0)
  (h24 : k = 24 → 1 ≤ n ∧ n ≤ 24) (h0 : k ≠ 24 → n = 0) (h25 : k = 25 → l.length = 2) (h23 : k = 23 → l.length % 2 = 0) : Fine ⟨k, n, [], l⟩ ∧ Yx ⟨k, n, [], l⟩ ((m + 1 : Nat) : Int) = 0 := by
 refine ⟨.mk _ ?_ (by simp) (fun x hx => (hit x hx).1), ?_⟩
 ·by_cases h : k = 24
  ·have := h24 h; exact ⟨by simp only []; omega, by simp only []; omega⟩
  ·have := h0 h; exact ⟨by simp only []; omega, by simp only []; omega⟩
 ·rw [Gp]
  simp only [hkeys, Qc9 h24 h0 h25 h23]
  rw [if_neg (by omega), if_neg (by omega), if_neg (by omega), if_neg (by omega), if_neg (by simp), if_neg (by omega), show (((m + 1 : Nat) : Int) - 1) = (m : Int) by omega]
  exact Q5z _ _ _ _ (fun x hx => (hit x hx).2)
theorem Qa2 {code : Int} {s : List UInt8} (m : Int) (hs : s.length ≤ 300000) (h : (Q94 code s).2.2 = 0) : Fine (Q94 code s).1 ∧ Yx (Q94 code s).1 m = 0 ∧ (Q94 code s).1.Kind = (ofS code).Kind := by
 generalize hg : Q94 code s = g at h ⊢
 obtain ⟨x, n, e⟩ := g
 simp only at h
 subst h
 obtain ⟨h1, h2, h3, h4, h5, h6, h7⟩ := reads (by unfold Qsm; omega) hg
 obtain ⟨c1, c2, c3, c4, _⟩ := Wx h5
 show Fine x ∧ Yx x m = 0 ∧ x.Kind = (ofS code).Kind
 refine ⟨.mk _ h3 (by omega) (by simp [c4]), ?_, (Gz h6).2.1.symm⟩
 rw [Gp, if_neg (by omega), if_neg (by omega), if_pos (by omega)]; exact h5
theorem Qab : ∀ (m : Nat) (code : Int) (s : List UInt8), s.length ≤ 300000 → (V4 m code s).2.2 = 0 → Fine (V4 m code s).1 ∧ Yx (V4 m code s).1 m = 0 ∧ (V4 m code s).1.Kind = (ofS code).Kind := by
 intro m
 induction m with
 | zero =>
  intro code s hs he
  obtain ⟨h1, h2 | ⟨h2, k, hk⟩⟩ := Qh7 he
  ·rw [Q8i h1 h2] at he ⊢
   exact Qa2 _ hs he
  ·omega
 | succ m ih =>
  intro code s hs he
  obtain ⟨h1, h2 | ⟨h2, k, hk⟩⟩ := Qh7 he
  ·rw [Q8i h1 h2] at he ⊢
   exact Qa2 _ hs he
  rw [Q61 h1 h2] at he ⊢
  have hsh := Vj h1 h2
  have hrd : ∀ s : List UInt8, s.length ≤ 300000 → (Yq (V4 m) s).2.2 = 0 → Fine (Yq (V4 m) s).1 ∧ Yx (Yq (V4 m) s).1 m = 0 := fun s hs he => by
   obtain ⟨b, u, rfl, e1, e2⟩ := Qh6 he
   have := ih b.toNat u (by simp at hs; omega) e1
   rw [e2]; exact ⟨this.1, this.2.1⟩
  unfold Qg7 at he ⊢
  by_cases k25 : (ofS code).Kind = 25
  ·rw [if_pos k25] at he ⊢
   have e1 : (U9 (Yq (V4 m)) 2 s []).2 = 0 := by
    unfold Qeh at he
    split at he
    ·exact he
    ·rename_i h1; exact Classical.byContradiction h1
   obtain ⟨i1, i2⟩ := Q1t (P := fun x => Fine x ∧ Yx x m = 0) hrd 2 s [] hs (by simp) e1
   unfold Qeh
   rw [if_neg (by simp [e1]), k25]
   simp only []
   have hl2 : (U9 (Yq (V4 m)) 2 s []).1.1.length = 2 := by simpa using i2
   have := Q59 (k := 25) (n := 0) (l := (U9 (Yq (V4 m)) 2 s []).1.1) (m := m) (by omega) (by omega) (fun x hx => ⟨(i1 x hx).1, (i1 x hx).2, fun h => by omega⟩) (Qbv (by omega)) (by omega) (fun _ => rfl) (fun _ => hl2) (by omega)
   exact ⟨this.1, this.2, trivial⟩
  rw [if_neg k25] at he ⊢
  by_cases hsz : (ofS code).Sized = false
  ·rw [if_pos hsz] at he ⊢
   have hk : (ofS code).Kind = 22 := by have := hsh.2 hsz; omega
   rw [hk]
   have := Q59 (k := 22) (n := 0) (l := []) (m := m) (by omega) (by simp) (by simp) (Qbv (by omega)) (by omega) (fun _ => rfl) (by omega) (by omega)
   exact ⟨this.1, this.2, rfl⟩
  rw [if_neg hsz] at he ⊢
  have hsz : (ofS code).Sized = true := by
   cases h : (ofS code).Sized with
   | true => rfl
   | false => exact absurd h hsz
  obtain ⟨body, num, q, cnt, rest, p1, p2, p3, p4, p5, p6, p7, p8⟩ := Qh9 he
  obtain ⟨f1, f2, f3, f4⟩ := Qji p7
  rw [p8, f4]
  have hk := (hsh.1 hsz).2
  have hbl2 : body.length ≤ s.length := by
   rw [p2]
   exact Nat.le_trans (List.length_take_le' _ _) (by rw [List.length_drop]; exact Nat.sub_le _ _)
  rcases p5 with ⟨q0, q1, q2, q3⟩ | ⟨q0, b, q1, q2, q3, q4, q5⟩
  ·have hrl : rest.length ≤ body.length := by rw [q2, List.length_drop]; omega
   rw [q3] at f1
   obtain ⟨i1, i2⟩ := Q1t (P := fun x => Fine x ∧ Yx x m = 0) hrd cnt rest [] (by omega) (by simp) f1
   rw [← q3] at i1 i2
   have hlc : q.1.1.length = cnt := by simpa using i2
   have := Q59 (k := (ofS code).Kind) (n := num) (l := q.1.1) (m := m) (by omega) (by omega) (fun x hx => ⟨(i1 x hx).1, (i1 x hx).2, fun h => absurd h q0⟩) f3 (fun h => absurd h q0) (fun _ => q1) (by omega) (fun h => by rw [hlc]; exact p6 h)
   exact ⟨this.1, this.2, rfl⟩
  ·have hrl : rest.length ≤ body.length := by
    have := congrArg List.length q1
    rw [List.length_drop, List.length_cons] at this; omega
   rw [q5] at f1
   obtain ⟨i1, i2⟩ := Q1t (P := fun x => Fine x ∧ Yx x m = 0 ∧ x.Kind = (ofS (b.toNat : Int)).Kind) (ih (b.toNat : Int)) cnt rest [] (by omega) (by simp) f1
   rw [← q5] at i1 i2
   have hlc : q.1.1.length = cnt := by simpa using i2
   have hbk := (Q6q _ q2).kind
   have hb25 : (ofS (b.toNat : Int)).Kind ≠ 25 := fun h => q3 (by have := Qt9 q2 h; omega)
   have := Q59 (k := (ofS code).Kind) (n := num) (l := q.1.1) (m := m) (by omega) (by omega) (fun x hx => ⟨(i1 x hx).1, (i1 x hx).2.1, fun _ => by rw [(i1 x hx).2.2, q4, Q8z]; omega⟩) f3 (fun _ => by rw [q4]; omega) (fun h => absurd q0 h) (by omega) (by omega)
   exact ⟨this.1, this.2, rfl⟩
end
end Go.Av
namespace Go.Av
noncomputable section
open Go.Proofs
set_option maxRecDepth 100000
theorem Q74 {Lp : Nat → List UInt8 → Int → List Q0 → Option Rd} {nx : List UInt8 → Option Rd} {E : List UInt8 → List Q0 → Option Rd} {v11 k num : Int} {cnt tot : Nat} {rd : List UInt8 → Rd}
  (hLp : ∀ n body i l, Lp (n + 1) body i l = cond (Q8 .lss i v11) ((nx body).bind fun v => cond (Q8 .eql v.2.2 3) (some ((⟨0, 0, [], []⟩ : Q0), 0, 5)) (cond (Q8 .neq v.2.2 0) (some ((⟨0, 0, [], []⟩ : Q0), 0, v.2.2)) (cond (Nat.ble ((l.length + 1 + 4096) * 56) 17592186044416) (cond (decide (0 ≤ v.2.1)) (cond (Nat.ble v.2.1.toNat body.length && Nat.ble body.length body.length) (Lp n ((body.take body.length).drop v.2.1.toNat) (IntKind.wrap .u64 (i + 1)) (l ++ [v.1])) none) none) none))) (E body l))
  (h11 : v11 = (cnt : Int)) (hc : cnt ≤ 1000) (hR : ∀ s, s.length ≤ 300000 → nx s = some (rd s)) (hg : Qrz rd) (hf : ∀ s, s.length ≤ 300000 → (rd s).2.2 = 0 → Fine (rd s).1)
  (hE : ∀ body l, (∀ x ∈ l, Fine x) → Q0.szs l ≤ 300001000 → E body l = some (Qcw k num ((l, body), 0) tot)) :
  ∀ (n i : Nat) (body : List UInt8) (l : List Q0), i ≤ cnt → cnt - i < n → body.length ≤ 300000 → l.length = i → (∀ x ∈ l, Fine x) → Q0.szs l ≤ i + 1000 * (300000 - body.length) →
  Lp n body (i : Int) l = some (Qcw k num (U9 rd (cnt - i) body l) tot)
 | 0, i, body, l, _, h, _, _, _, _ => by omega
 | n + 1, i, body, l, hi, hn, hb, hl, hfl, hz => by
  rw [hLp]
  simp only [Q9, Wm, V5, J0, h11, hR body hb, Option.bind_some, List.take_length]
  by_cases hic : i < cnt
  ·rw [if_pos (by omega)]
   obtain ⟨k', hk⟩ : ∃ k', cnt - i = k' + 1 := ⟨cnt - i - 1, by omega⟩
   rw [hk, U9]
   have hgd := hg body (by omega)
   have hfd := hf body hb
   generalize hr : rd body = r at hgd hfd ⊢
   obtain ⟨x, m, e⟩ := r
   simp only [] at hgd hfd ⊢
   by_cases he : e = 0
   ·subst he
    obtain ⟨g1, g2, g3⟩ := hgd rfl
    obtain ⟨mm, rfl⟩ := Int.eq_ofNat_of_zero_le g1
    simp only [Int.toNat_natCast] at g3 ⊢
    rw [if_neg (by decide), if_neg (by simp), if_pos (by simp [Nat.ble_eq]; omega), if_pos (by simp), if_pos (by simp [Nat.ble_eq]; omega), Qwa i (by omega), if_neg (by simp)]
    have ih := Q74 hLp h11 hc hR hg hf hE n (i + 1) (body.drop mm) (l ++ [x]) (by omega) (by omega) (by rw [List.length_drop]; omega) (by simp [hl]) (fun y hy => by
     rcases List.mem_append.1 hy with hy | hy
     ·exact hfl y hy
     ·rw [List.mem_singleton.1 hy]; exact hfd rfl) (by
     rw [Q0.szs_app, List.length_drop]
     simp only [Q0.szs] at g3 ⊢
     omega)
    rw [ih, show cnt - (i + 1) = k' by omega]
   ·rw [if_pos (show e ≠ 0 from he), if_pos (show e ≠ 0 from he), Qo5 he]
    by_cases h3 : e = 3
    ·rw [if_pos h3, if_pos h3]; rfl
    ·rw [if_neg h3, if_neg h3]; rfl
  ·rw [if_neg (by omega), show cnt - i = 0 by omega, U9]
   exact hE body l hfl (by omega)
theorem Qmd {N : Nat} {body : List UInt8} {l : List Q0} {a : Int} {tot : Nat} (hfl : ∀ x ∈ l, Fine x) (hz : Q0.szs l ≤ 300001000) (hN : 700000000 < N) (ha : a = (tot : Int)) :
  (cond (Q3o .neq body []) (some ((⟨0, 0, [], []⟩ : Q0), (0 : Int), (5 : Int))) ((Ye N l).bind fun v101 => cond v101 (some ((⟨0, 0, [], []⟩ : Q0), 0, 16)) (some ((⟨23, 0, [], l⟩ : Q0), a, 0)))) = some (Qcw 23 0 ((l, body), 0) tot) := by
 have hs : Q0.sz ⟨23, 0, [], l⟩ = 1 + Q0.szs l := by rw [Q0.sz_eq]
 have h1 := Qme N ⟨23, 0, [], l⟩ (.mk _ Qpp (by simp) hfl) rfl (by omega) (by omega)
 simp only at h1
 simp only [h1, Q9, Jh, Option.bind_some, ha]
 unfold Qcw
 simp only []
 rw [if_neg (show ¬ ((0 : Int) ≠ 0) by simp)]
 by_cases hb : body ≠ []
 ·rw [if_pos hb, if_pos hb]; rfl
 ·rw [if_neg hb, if_neg hb]
  rcases Qnl ⟨23, 0, [], l⟩ with h | h
  ·rw [h]; simp
  ·rw [h]; simp [G9]
theorem Qfk {body : List UInt8} {l : List Q0} {k num a : Int} {tot : Nat} (hk : k ≠ 23) (ha : a = (tot : Int)) :
  (cond (Q3o .neq body []) (some ((⟨0, 0, [], []⟩ : Q0), (0 : Int), (5 : Int))) (some ((⟨k, num, [], l⟩ : Q0), a, 0))) = some (Qcw k num ((l, body), 0) tot) := by
 simp only [Q9, Jh, ha]
 unfold Qcw
 simp only []
 rw [if_neg (show ¬ ((0 : Int) ≠ 0) by simp), Qbv hk]
 by_cases hb : body ≠ []
 ·rw [if_pos hb, if_pos hb]; rfl
 ·rw [if_neg hb, if_neg hb, if_neg (by simp)]
theorem Qju : ∀ (m : Nat) (code : Int) (s : List UInt8), s.length ≤ 300000 → (V4 m code s).2.2 = 0 → Fine (V4 m code s).1 := fun m code s h1 h2 => (Qab m code s h1 h2).1
theorem Qe5 (m : Nat) (s : List UInt8) (h1 : s.length ≤ 300000) (h2 : (Yq (V4 m) s).2.2 = 0) : Fine (Yq (V4 m) s).1 := by
 obtain ⟨b, u, rfl, e1, e2⟩ := Qh6 h2
 have := Qab m b.toNat u (by simp at h1; omega) e1
 rw [e2]; exact this.1
theorem Qiy {R1 : List UInt8 → Int → Option Rd} {R2 : Int → List UInt8 → Int → Option Rd} {R3 : Qh → List UInt8 → Int → Option Rd} {R4 : Int → List UInt8 → Int → Option Rd} {N m m' : Nat} {c : Qh} {s : List UInt8}
  (hN : 700000000 < N) (hm : m + 1 ≤ 32) (hs : s.length ≤ 300000) (hw : c.Width = 1 ∨ c.Width = 4) (_hk : 22 ≤ c.Kind ∧ c.Kind ≤ 24)
  (h1 : ∀ t, t.length ≤ 300000 → R4 (-1) t (((m + 1 : Nat) : Int) - 1) = some (Yq (V4 m') t)) (h2 : ∀ code t, 0 ≤ code → t.length ≤ 300000 → R4 code t (((m + 1 : Nat) : Int) - 1) = some (V4 m' code t)) :
  X9 R1 R2 R3 R4 N c s ((m + 1 : Nat) : Int) = some (Q55 (V4 m') c s) := by
 obtain ⟨w, hw1, hw2⟩ : ∃ w : Nat, c.Width = w ∧ (w = 1 ∨ w = 4) := by
  rcases hw with h | h
  ·exact ⟨1, h, .inl rfl⟩
  ·exact ⟨4, h, .inr rfl⟩
 have hg := Q8k m'
 simp only [X9, hw1, Q9, Wm, Q47, V5, J0, Int.toNat_natCast, List.drop_zero]
 unfold Q55
 rw [hw1, Int.toNat_natCast]
 by_cases hl : s.length < w
 ·rw [if_pos (by omega), if_pos hl]; rfl
 rw [if_neg (by omega), if_neg hl, if_pos (by simp), if_pos (by simp [Nat.ble_eq]; omega), Qh3 N (s.take w) (by rw [List.length_take]; omega) (by omega)]
 simp only [Option.bind_some]
 have hlt := Q5t (s.take w)
 have h4 : 256 ^ (s.take w).length ≤ 256 ^ 4 := Nat.pow_le_pow_right (by omega) (by rw [List.length_take]; omega)
 have h5 : (256 : Nat) ^ 4 = 4294967296 := rfl
 generalize hn : Q17 (s.take w) = n at *
 rw [show IntKind.i64.wrap ((s.length : Int) - (w : Int)) = ((s.length - w : Nat) : Int) by rw [Z5 _ (by omega)]; omega, Qb4 _ (by omega)]
 by_cases h6 : s.length - w < n
 ·rw [if_pos (by omega), if_pos h6]; rfl
 have e1 : IntKind.i64.wrap ((w : Int) + IntKind.i64.wrap (n : Int)) = ((w + n : Nat) : Int) := by
  rw [Z5 (n : Int) (by omega), Z5 _ (by omega)]; push_cast; rfl
 rw [if_neg (by omega), if_neg h6]
 simp only [e1, Int.toNat_natCast]
 rw [if_pos (by simp; omega), if_pos (by simp [Nat.ble_eq]; omega)]
 have e2 : (s.take (w + n)).drop w = (s.drop w).take n := by rw [List.drop_take]; congr 1; omega
 simp only [e2]
 have hbl : ((s.drop w).take n).length = n := by rw [List.length_take, List.length_drop]; omega
 generalize hbody : (s.drop w).take n = body at *
 simp only [List.take_length]
 unfold Qnt
 by_cases h7 : body.length < w
 ·rw [if_pos (by omega), if_pos h7]; rfl
 rw [if_neg (by omega), if_neg h7, if_pos (by simp [Nat.ble_eq]; omega), Qh3 N (body.take w) (by rw [List.length_take]; omega) (by omega)]
 simp only [Option.bind_some]
 rw [if_pos (by simp [Nat.ble_eq]; omega)]
 generalize hcnt : Q17 (body.take w) = cnt at *
 by_cases h8 : 1000 < cnt
 ·rw [if_pos (by omega), if_pos h8]; rfl
 rw [if_neg (by omega), if_neg h8]
 simp only [Qt0]
 have hdl : (body.drop w).length ≤ 300000 := by rw [List.length_drop]; omega
 by_cases h23 : c.Kind = 23
 ·rw [if_pos h23]
  by_cases h9 : cnt % 2 ≠ 0
  ·rw [if_pos h9, if_pos ⟨h23, h9⟩]; rfl
  ·rw [if_neg h9, if_neg (show ¬ (c.Kind = 23 ∧ cnt % 2 ≠ 0) from fun h => h9 h.2), if_neg (by omega), if_neg (show ¬ c.Kind = 24 by omega)]
   have := Q74 (Lp := Xh R4 N c ((m + 1 : Nat) : Int) (n : Int) (cnt : Int)) (nx := fun body => R4 (-1) body (IntKind.i64.wrap (((m + 1 : Nat) : Int) - 1))) (v11 := (cnt : Int)) (k := c.Kind) (num := 0) (cnt := cnt) (tot := w + n) (rd := Yq (V4 m')) (fun _ _ _ _ => rfl) rfl (by omega) (fun s hs => by rw [Z5 _ (by omega)]; exact h1 s hs) (Q4u hg).1 (fun s hs he => Qe5 m' s hs he) (fun body l hf hz => by
    have := Qmd (N := N) (body := body) (l := l) (tot := w + n) hf hz hN rfl
    rw [h23, hw1, e1]; exact this) N 0 (body.drop w) [] (by omega) (by omega) hdl rfl (by simp) (by simp [Q0.szs])
   rw [Nat.sub_zero] at this
   exact this
 ·rw [if_neg h23, if_neg (show ¬ (c.Kind = 23 ∧ cnt % 2 ≠ 0) from fun h => h23 h.1)]
  by_cases h24 : c.Kind = 24
  ·rw [if_pos h24, if_pos h24]
   cases hd : body.drop w with
   | nil => rfl
   | cons b t =>
    rw [if_neg (by simp [Q3o]), show idx (b :: t) 0 = some b from rfl]
    simp only [Option.bind_some, Qsn, Qqs]
    rw [Q3a N _ (by omega)]
    simp only [Option.bind_some]
    cases ho : ofB (b.toNat : Int) with
    | false => rw [if_pos (by rfl), if_pos (.inl rfl)]; rfl
    | true =>
     rw [if_neg (by simp)]
     by_cases hb0 : b.toNat = 0
     ·rw [if_pos (by omega), if_pos (.inr hb0)]; rfl
     ·rw [if_neg (show ¬ ((b.toNat : Int) = 0) by omega), if_neg (show ¬ (true = false ∨ b.toNat = 0) by simp [hb0]), if_pos (show (Nat.ble 1 (b :: t).length && Nat.ble (b :: t).length (b :: t).length) = true by simp [Nat.ble_eq])]
      have hkb := (Q6q _ ho).kind
      have htl : t.length ≤ 300000 := by
       have := congrArg List.length hd
       rw [List.length_drop, List.length_cons] at this; omega
      have := Q74 (Lp := Xd R4 N c ((m + 1 : Nat) : Int) (n : Int) (cnt : Int) b (ofS (b.toNat : Int), true)) (nx := fun body => R4 (IntKind.i64.wrap (b.toNat : Int)) body (IntKind.i64.wrap (((m + 1 : Nat) : Int) - 1))) (v11 := (cnt : Int)) (k := c.Kind) (num := (ofS (b.toNat : Int)).Kind) (cnt := cnt) (tot := w + n) (rd := V4 m' (b.toNat : Int)) (fun _ _ _ _ => rfl) rfl (by omega) (fun s hs => by rw [Qqs, Z5 _ (by omega)]; exact h2 _ s (by omega) hs) (hg _) (fun s hs he => Qju m' _ s hs he) (fun body l hf hz => by
       have := Qfk (body := body) (l := l) (k := c.Kind) (num := (ofS (b.toNat : Int)).Kind) (tot := w + n) h23 (a := ((w + n : Nat) : Int)) rfl
       rw [hw1, e1, show IntKind.u64.wrap (ofS (b.toNat : Int)).Kind = (ofS (b.toNat : Int)).Kind by rw [Q8z]; omega]; exact this) N 0 t [] (by omega) (by omega) htl rfl (by simp) (by simp [Q0.szs])
      rw [Nat.sub_zero] at this
      simp only [List.drop_succ_cons, List.drop_zero]
      exact this
  ·rw [if_neg h24, if_neg h24]
   have := Q74 (Lp := Xg R4 N c ((m + 1 : Nat) : Int) (n : Int) (cnt : Int)) (nx := fun body => R4 (-1) body (IntKind.i64.wrap (((m + 1 : Nat) : Int) - 1))) (v11 := (cnt : Int)) (k := c.Kind) (num := 0) (cnt := cnt) (tot := w + n) (rd := Yq (V4 m')) (fun _ _ _ _ => rfl) rfl (by omega) (fun s hs => by rw [Z5 _ (by omega)]; exact h1 s hs) (Q4u hg).1 (fun s hs he => Qe5 m' s hs he) (fun body l hf hz => by
    have := Qfk (body := body) (l := l) (k := c.Kind) (num := 0) (tot := w + n) h23 (a := ((w + n : Nat) : Int)) rfl
    rw [hw1, e1]; exact this) N 0 (body.drop w) [] (by omega) (by omega) hdl rfl (by simp) (by simp [Q0.szs])
   rw [Nat.sub_zero] at this
   exact this
theorem Qh4 {m N : Nat} {s : List UInt8} (hm : m ≤ 32) (hs : s.length ≤ 300000) (h : ∀ code t, t.length ≤ s.length → Y1 N code t (m : Int) = some (V4 m code t)) : Qp (N + 1) s (m : Int) = some (Yq (V4 m) s) := by
 show Wu (Qp N) (Y1 N) (X8 N) (Xm N) N s (m : Int) = _
 simp only [Wu, Q9, Wm, Q47, J0]
 rw [if_neg (by omega), if_neg (by omega)]
 cases s with
 | nil => rfl
 | cons b t =>
  rw [if_neg (by simp [Q3o]), show idx (b :: t) 0 = some b from rfl]
  simp only [Option.bind_some]
  rw [if_pos (by simp [Nat.ble_eq]), List.take_length, Qqs]
  simp only [List.drop_succ_cons, List.drop_zero]
  rw [h _ t (by simp)]
  simp only [Option.bind_some, Yq]
  by_cases he : (V4 m (b.toNat : Int) t).2.2 = 0
  ·rw [if_neg (by simp [he]), if_neg (by simp [he])]
   obtain ⟨g1, g2, g3⟩ := Q8k m (b.toNat : Int) t (by simp at hs; omega) he
   rw [Z5 _ (by simp at hs; omega)]
  ·rw [if_pos he, if_pos he]; rfl
theorem Qnw : ∀ m : Nat, m ≤ 32 → ∀ N : Nat, 700000100 + 5 * m < N → ∀ (code : Int) (s : List UInt8), s.length ≤ 300000 → Y1 N code s (m : Int) = some (V4 m code s) := by
 intro m
 induction m with
 | zero =>
  intro hm N hN code s hs
  obtain ⟨N, rfl⟩ : ∃ K, N = K + 1 := ⟨N - 1, by omega⟩
  show Ys (Qp N) (Y1 N) (X8 N) (Xm N) N code s ((0 : Nat) : Int) = _
  simp only [Ys, Q9, Wm, Q47, V5, J0, Q3a N code (by omega), Option.bind_some, V4]
  rw [if_neg (by omega), if_neg (by omega)]
  cases h1 : ofB code with
  | false => rfl
  | true =>
   simp only [Bool.not_true, Bool.false_eq_true, if_false, Bool.true_eq_false]
   cases h2 : (ofS code).Items with
   | false =>
    simp only [Bool.not_false, if_true]
    rw [Qc6 N code s (by omega) (by omega) (by omega)]; rfl
   | true => rfl
 | succ m ih =>
  intro hm N hN code s hs
  obtain ⟨N, rfl⟩ : ∃ K, N = K + 5 := ⟨N - 5, by omega⟩
  show Ys (Qp (N + 4)) (Y1 (N + 4)) (X8 (N + 4)) (Xm (N + 4)) (N + 4) code s ((m + 1 : Nat) : Int) = _
  simp only [Ys, Q9, Wm, Q47, V5, J0, Q3a (N + 4) code (by omega), Option.bind_some, V4, Z5 (((m + 1 : Nat) : Int) - 1) (show _ by omega)]
  rw [if_neg (by omega), if_neg (by omega)]
  cases h1 : ofB code with
  | false => rfl
  | true =>
   simp only [Bool.not_true, Bool.false_eq_true, if_false, Bool.true_eq_false]
   cases h2 : (ofS code).Items with
   | false =>
    simp only [Bool.not_false, if_true]
    rw [Qc6 (N + 4) code s (by omega) (by omega) (by omega)]; rfl
   | true =>
    simp only [Bool.not_true, Bool.false_eq_true, if_false, Bool.true_eq_false]
    rw [if_neg (show ¬ (((m + 1 : Nat) : Int) = 0) by omega)]
    have em : (((m + 1 : Nat) : Int) - 1) = (m : Int) := by omega
    have hR : ∀ K, N + 1 ≤ K → ∀ t : List UInt8, t.length ≤ 300000 → Qp K t (m : Int) = some (Yq (V4 m) t) := fun K hK t ht => by
     obtain ⟨K, rfl⟩ : ∃ J, K = J + 1 := ⟨K - 1, by omega⟩
     exact Qh4 (by omega) ht (fun code u hu => ih (by omega) K (by omega) code u (by omega))
    cases h4 : (ofS code).Sized with
    | true =>
     have hsh := (Vj h1 h2).1 h4
     rw [if_pos rfl, if_neg (show ¬ (ofS code).Kind = 25 by omega)]
     simp only [Bool.true_eq_false, if_false]
     show (X9 (Qp (N + 3)) (Y1 (N + 3)) (X8 (N + 3)) (Xm (N + 3)) (N + 3) (ofS code) s ((m + 1 : Nat) : Int)).bind _ = _
     rw [Qiy (m := m) (m' := m) (c := ofS code) (by omega) hm hs hsh.1 hsh.2 (fun t ht => by
      rw [em]
      show Yt (Qp (N + 2)) (Y1 (N + 2)) (X8 (N + 2)) (Xm (N + 2)) (N + 2) (-1) t (m : Int) = _
      simp only [Yt, Q9, Wm]
      rw [if_pos (by decide), hR (N + 2) (by omega) t ht]; rfl) (fun code t hc ht => by
      rw [em]
      show Yt (Qp (N + 2)) (Y1 (N + 2)) (X8 (N + 2)) (Xm (N + 2)) (N + 2) code t (m : Int) = _
      simp only [Yt, Q9, Wm]
      rw [if_neg (by omega), ih (by omega) (N + 2) (by omega) code t ht]; rfl)]; rfl
    | false =>
     have hsh := (Vj h1 h2).2 h4
     simp only [Bool.false_eq_true, if_false, if_true]
     by_cases h22 : (ofS code).Kind = 22
     ·rw [if_pos h22, if_neg (show ¬ (ofS code).Kind = 25 by omega), h22]
     ·rw [if_neg h22, if_pos (show (ofS code).Kind = 25 by omega), em, hR (N + 4) (by omega) s hs]
      have hgr := (Q4u (Q8k m)).1
      simp only [Option.bind_some]
      unfold Qeh
      rw [U9]
      have hg1 := hgr s (by omega)
      generalize hr : Yq (V4 m) s = r at hg1 ⊢
      obtain ⟨x, n, e⟩ := r
      simp only [] at hg1 ⊢
      by_cases he : e = 0
      ·subst he
       obtain ⟨g1, g2, g3⟩ := hg1 rfl
       obtain ⟨n, rfl⟩ := Int.eq_ofNat_of_zero_le g1
       simp only [Int.toNat_natCast, List.take_length]
       rw [if_neg (by simp), if_pos (by simp), if_pos (by simp [Nat.ble_eq]; omega), hR (N + 4) (by omega) (s.drop n) (by rw [List.length_drop]; omega)]
       simp only [Option.bind_some]
       rw [if_neg (show ¬ ((0 : Int) ≠ 0) by simp), U9]
       have hg2 := hgr (s.drop n) (by rw [List.length_drop]; omega)
       generalize hr2 : Yq (V4 m) (s.drop n) = r2 at hg2 ⊢
       obtain ⟨x2, n2, e2⟩ := r2
       simp only [] at hg2 ⊢
       by_cases he2 : e2 = 0
       ·subst he2
        obtain ⟨q1, q2, q3⟩ := hg2 rfl
        obtain ⟨n2, rfl⟩ := Int.eq_ofNat_of_zero_le q1
        rw [List.length_drop] at q2
        rw [if_neg (by simp), if_neg (show ¬ ((0 : Int) ≠ 0) by simp), U9]
        simp only []
        rw [if_neg (by simp), Z5 _ (by omega)]
        simp only [Int.toNat_natCast, List.length_drop, List.nil_append, List.cons_append]
        congr 3
        omega
       ·rw [if_pos he2, if_pos (show e2 ≠ 0 from he2)]
        simp only []
        rw [if_pos (show e2 ≠ 0 from he2)]; rfl
      ·rw [if_pos he, if_pos (show e ≠ 0 from he)]
       simp only []
       rw [if_pos (show e ≠ 0 from he)]; rfl
theorem Qjv (m N : Nat) (s : List UInt8) (hm : m ≤ 32) (hN : 700000200 + 5 * m < N) (hs : s.length ≤ 300000) : Qp N s (m : Int) = some (Yq (V4 m) s) := by
 obtain ⟨N, rfl⟩ : ∃ K, N = K + 1 := ⟨N - 1, by omega⟩
 exact Qh4 hm hs (fun code t ht => Qnw m hm N (by omega) code t (by omega))
end
end Go.Av
namespace Go.Av
noncomputable section
open Go.Proofs
set_option maxRecDepth 100000
end
end Go.Av
namespace Go.Av
noncomputable section
open Go.Proofs
set_option maxRecDepth 100000
def Jy (code : Int) (v : Q0) (b : List UInt8) : Bool :=
 if (ofS code).Items = false then Vi code v else if (ofS code).Width = 0 then decide (v.Items.length = 0)
 else decide ((ofS code).Width = 4 ∨ (v.Items.length < 256 ∧ b.length + 1 < 256))
def Yz (code : Int) (v : Q0) (b : List UInt8) : List UInt8 :=
 if (ofS code).Items = false then (Qb8 code v).1 else if (ofS code).Sized = false then []
 else Uc (b.length + (ofS code).Width.toNat) (ofS code).Width.toNat ++ (Uc v.Items.length (ofS code).Width.toNat ++ b)
def Qm0 (c : Int) (l : List (Q0 × List UInt8)) : Bool := l.all fun p => Jy c p.1 p.2
def Q0f (k : Int) (l : List (Q0 × List UInt8)) : Int := ((X4 k).find? (fun c => Qm0 c l)).getD 0
def Q8m (c : Int) : UInt8 := UInt8.ofNat c.toNat
def Qtw (n : Int) (l : List (Q0 × List UInt8)) : List UInt8 := Q8m (Q0f n l) :: (l.map fun p => Yz (Q0f n l) p.1 p.2).flatten
def Qsv (k n : Int) (is : List Q0) (l : List (List UInt8 × List UInt8)) : List UInt8 := if k = 24 then Qtw n (is.zip (l.map (·.1))) else if k = 25 then [] else (l.map (·.2)).flatten
def Qtx (v : Q0) (b : List UInt8) (l : List (List UInt8 × List UInt8)) : List UInt8 := if v.Kind = 25 then 0 :: (l.map (·.2)).flatten else Q8m (Q0f v.Kind [(v, b)]) :: Yz (Q0f v.Kind [(v, b)]) v b
mutual
def Q0.enc : Q0 → List UInt8 × List UInt8
 | .mk k n t is => (Qsv k n is (Q0.encs is), Qtx ⟨k, n, t, is⟩ (Qsv k n is (Q0.encs is)) (Q0.encs is))
def Q0.encs : List Q0 → List (List UInt8 × List UInt8)
 | [] => []
 | v :: l => v.enc :: Q0.encs l
end
def Q0.inn (v : Q0) : List UInt8 := v.enc.1
def Q0.byt (v : Q0) : List UInt8 := v.enc.2
theorem Qf9 : ∀ l, Q0.encs l = l.map Q0.enc
 | [] => rfl
 | v :: l => by rw [Q0.encs, Qf9 l]; rfl
def Q0.prs (v : Q0) : List (Q0 × List UInt8) := v.Items.map fun x => (x, x.inn)
def Q0.elm (v : Q0) : Int := Q0f v.N' v.prs
def Q0.cod (v : Q0) : Int := Q0f v.Kind [(v, v.inn)]
theorem Qpa (l : List Q0) : l.zip ((l.map Q0.enc).map (·.1)) = l.map fun x => (x, x.inn) := by
 induction l with
 | nil => rfl
 | cons x l ih => simp only [List.map_cons, List.zip_cons_cons, ih]; rfl
theorem Q5f (v : Q0) : v.inn = if v.Kind = 24 then Q8m v.elm :: (v.Items.map fun x => Yz v.elm x x.inn).flatten else if v.Kind = 25 then [] else (v.Items.map Q0.byt).flatten := by
 obtain ⟨k, n, t, is⟩ := v
 unfold Q0.inn
 rw [Q0.enc, Qf9]
 simp only [Qsv, Qpa, Q0.elm, Q0.prs, Qtw]
 simp only [List.map_map]
 rfl
theorem Qdx (v : Q0) : v.byt = if v.Kind = 25 then 0 :: (v.Items.map Q0.byt).flatten else Q8m v.cod :: Yz v.cod v v.inn := by
 obtain ⟨k, n, t, is⟩ := v
 unfold Q0.byt Q0.cod Q0.inn
 rw [Q0.enc, Qf9]
 simp only [Qtx, List.map_map]
 rfl
theorem Qft {k : Int} {l : List (Q0 × List UInt8)} (h : ∃ c ∈ X4 k, Qm0 c l = true) : Q0f k l ∈ X4 k ∧ Qm0 (Q0f k l) l = true := by
 unfold Q0f
 cases hf : (X4 k).find? (fun c => Qm0 c l) with
 | some c => exact ⟨List.mem_of_find?_eq_some hf, by simpa using List.find?_some hf⟩
 | none =>
  obtain ⟨c, h1, h2⟩ := h
  have := List.find?_eq_none.1 hf c h1
  exact absurd h2 this
def Jr (k : Int) : Int := (X4 k).getLastD 0
def Qlk (k : Nat) : Bool := !(decide (1 ≤ k)) || ((X4 k).contains (Jr k) && ((k == 25) || (if (ofS (Jr k)).Items then decide ((ofS (Jr k)).Width = 4) && (ofS (Jr k)).Sized else if (ofS (Jr k)).Sized then decide ((ofS (Jr k)).Width = 4) else decide ((ofS (Jr k)).Code ≠ 65) && (decide ((ofS (Jr k)).Width = 0 ∧ (Vr k).1 = 0 ∧ (Vr k).2 = false) || (decide ((ofS (Jr k)).Width = 1) && decide (8 = (Vr k).1 ∨ (Vr k).1 = 1 ∧ (Vr k).2 = false)) || decide (1 < (ofS (Jr k)).Width)))))
theorem Qll : ((List.range 26).all Qlk) = true := by decide +kernel
theorem Q7b {k : Int} (h : 1 ≤ k ∧ k ≤ 25) : Qlk k.toNat = true := List.all_eq_true.1 Qll k.toNat (by simp; omega)
theorem Qda {v : Q0} (hn : okU v.N') (h : Xj v = 0) : Jr v.Kind ∈ X4 v.Kind ∧ Vi (Jr v.Kind) v = true := by
 obtain ⟨c1, c2, c3, c4, c5, c6, c7⟩ := Wx h
 have hb := Q7b (k := v.Kind) (by omega)
 unfold Qlk at hb
 rw [show ((v.Kind.toNat : Nat) : Int) = v.Kind by omega] at hb
 simp only [Bool.or_eq_true, Bool.not_eq_true', decide_eq_false_iff_not, Bool.and_eq_true, List.contains_iff_mem, beq_iff_eq] at hb
 rcases hb with hb | ⟨hm, hb⟩
 ·omega
 ·refine ⟨hm, ?_⟩
  obtain ⟨d1, d2, d3⟩ := Q03 _ _ hm
  have hw := Q6q _ d1
  have hi := Vn hw (by omega)
  rcases hb with hb | hb
  ·omega
  rw [hi] at hb
  simp only [Bool.false_eq_true, if_false] at hb
  have hs : Q2f (ofS (Jr v.Kind)) v = true := by
   unfold Q2f
   by_cases hz : (ofS (Jr v.Kind)).Sized = true
   ·rw [if_pos hz] at hb
    have h4 : (ofS (Jr v.Kind)).Width = 4 := by simpa using hb
    obtain ⟨_, _, _, h65⟩ := hw.sized hi hz
    rw [if_neg h65, if_pos hz]
    simp [h4]
   ·rw [if_neg hz] at hb
    simp only [Bool.and_eq_true, Bool.or_eq_true, decide_eq_true_eq] at hb
    obtain ⟨h65, hb⟩ := hb
    rw [if_neg h65, if_neg hz]
    have hnum := c3
    unfold Q4a at hnum
    simp only [Bool.and_eq_true] at hnum
    have hf := hnum.1
    rcases hb with (⟨w0, b0, b1⟩ | ⟨w1, hb⟩) | w2
    ·rw [if_pos w0]
     rw [b0, b1] at hf
     unfold Uz at hf
     simp at hf ⊢
     have := hn.1
     omega
    ·rw [if_neg (by omega), if_pos w1, d3]
     rcases hb with hb | ⟨b1, b2⟩
     ·rw [← hb] at hf; exact hf
     ·rw [b1, b2] at hf
      rw [b2]
      unfold Uz at hf ⊢
      simp at hf ⊢
      omega
    ·rw [if_neg (by omega), if_neg (by omega)]
  unfold Vi
  simp [d1, d3, h, hs]
end
end Go.Av
namespace Go.Av
noncomputable section
open Go.Proofs
set_option maxRecDepth 100000
theorem Q81 : ∀ (l : List Q0) (k n m e : Int), Jz l k n m e = 0 → e = 0 ∧ ∀ x ∈ l, Yx x m = 0 ∧ (k = 24 → IntKind.u64.wrap x.Kind = n)
 | [], _, _, _, _, h => ⟨by simpa [Jz] using h, fun x hx => by cases hx⟩
 | x :: l, k, n, m, e, h => by
  rw [Jz] at h
  split at h
  ·cases h
  ·rename_i h1
   split at h
   ·rename_i h2; exact absurd h h2
   ·rename_i h2
    obtain ⟨i1, i2⟩ := Q81 l k n m e h
    refine ⟨i1, fun y hy => ?_⟩
    rcases List.mem_cons.1 hy with rfl | hy
    ·exact ⟨Classical.byContradiction h2, fun hk => Classical.byContradiction fun hn => h1 ⟨hk, hn⟩⟩
    ·exact i2 y hy
theorem Gg {v : Q0} (h : Js v = true) : v.Text = [] ∧ (v.Kind = 24 → 1 ≤ v.N' ∧ v.N' ≤ 24) ∧ (v.Kind ≠ 24 → v.N' = 0) ∧ (v.Kind = 25 → v.Items.length = 2) ∧ (v.Kind = 23 → v.Items.length % 2 = 0) := by
 unfold Js Q5q at h
 simp only [Q9, Jh, V5, J0, Q9d, Yg] at h
 split at h
 ·cases h
 ·rename_i h1
  have h1 : v.Text = [] := by simpa using h1
  refine ⟨h1, ?_⟩
  split at h
  ·rename_i h2
   split at h
   ·rename_i h3
    have h4 : v.N' ≤ 24 := by
     have : Q8 .leq v.N' 24 = true := by simpa using h
     rw [Q9g] at this; exact this
    exact ⟨fun _ => ⟨h3, h4⟩, fun h => absurd h2 h, fun h => by omega, fun h => by omega⟩
   ·cases h
  ·rename_i h2
   split at h
   ·cases h
   ·rename_i h3
    have h3 : v.N' = 0 := by simpa using h3
    refine ⟨fun h => absurd h h2, fun _ => h3, ?_, ?_⟩
    ·intro h5
     rw [if_pos h5] at h
     have : Q8 .eql (v.Items.length : Int) 2 = true := by simpa using h
     rw [V5] at this; omega
    ·intro h5
     rw [if_neg (by omega), if_pos h5] at h
     have : Q8 .eql ((v.Items.length : Int).tmod 2) 0 = true := by simpa using h
     rw [V5, Int.tmod_eq_emod_of_nonneg (by omega)] at this; omega
theorem U1 {v : Q0} {m : Int} (h : Yx v m = 0) : (1 ≤ v.Kind ∧ v.Kind ≤ 21 ∧ Xj v = 0) ∨
  (22 ≤ v.Kind ∧ v.Kind ≤ 25 ∧ m ≠ 0 ∧ Js v = true ∧ v.Items.length ≤ 1000 ∧ Gn v = 0 ∧ ∀ x ∈ v.Items, Yx x (m - 1) = 0 ∧ (v.Kind = 24 → IntKind.u64.wrap x.Kind = v.N')) := by
 rw [Gp] at h
 split at h
 ·cases h
 ·split at h
  ·cases h
  ·split at h
   ·exact .inl ⟨by omega, by omega, h⟩
   ·split at h
    ·cases h
    ·split at h
     ·cases h
     ·rename_i hs
      split at h
      ·cases h
      ·obtain ⟨h1, h2⟩ := Q81 _ _ _ _ _ h
       exact .inr ⟨by omega, by omega, by assumption, by simpa using hs, by omega, h1, h2⟩
theorem Q3f {v : Q0} {m : Int} (h : Yx v m = 0) : 1 ≤ v.Kind ∧ v.Kind ≤ 25 := by
 rcases U1 h with ⟨h1, h2, _⟩ | ⟨h1, h2, _⟩ <;> omega
theorem Q15 {v : Q0} {m : Int} (h : Yx v m = 0) : IntKind.u64.wrap v.Kind = v.Kind := by
 have := Q3f h
 rw [Q8z]; omega
theorem Qia {k : Int} (h : 22 ≤ k ∧ k ≤ 24) : Jr k ∈ X4 k ∧ (ofS (Jr k)).Items = true ∧ (ofS (Jr k)).Width = 4 := by
 have hb := Q7b (k := k) (by omega)
 unfold Qlk at hb
 rw [show ((k.toNat : Nat) : Int) = k by omega] at hb
 simp only [Bool.or_eq_true, Bool.not_eq_true', decide_eq_false_iff_not, Bool.and_eq_true, List.contains_iff_mem, beq_iff_eq] at hb
 rcases hb with hb | ⟨hm, hb⟩
 ·omega
 ·obtain ⟨d1, d2, d3⟩ := Q03 _ _ hm
  have hi : (ofS (Jr k)).Items = true := by rw [(Q6q _ d1).items, d3]; simp; omega
  rcases hb with hb | hb
  ·omega
  ·rw [if_pos hi] at hb
   simp only [Bool.and_eq_true, decide_eq_true_eq] at hb
   exact ⟨hm, hi, hb.1⟩
theorem Qcv {v : Q0} {m : Int} (hf : Fine v) (h : Yx v m = 0) (hk : v.Kind ≠ 25) (b : List UInt8) : Jr v.Kind ∈ X4 v.Kind ∧ Jy (Jr v.Kind) v b = true := by
 rcases U1 h with ⟨h1, h2, h3⟩ | ⟨h1, h2, _⟩
 ·obtain ⟨g1, g2⟩ := Qda hf.num h3
  obtain ⟨f1, f2, _⟩ := Gz g2
  refine ⟨g1, ?_⟩
  unfold Jy
  rw [if_pos (Vn (Q6q _ f1) (by omega))]; exact g2
 ·obtain ⟨g1, g2, g3⟩ := Qia (k := v.Kind) (by omega)
  refine ⟨g1, ?_⟩
  unfold Jy
  rw [if_neg (by simp [g2]), if_neg (by omega)]
  simp [g3]
theorem Qgi {v : Q0} {m : Int} (hf : Fine v) (h : Yx v m = 0) (hk : v.Kind = 24) : v.elm ∈ X4 v.N' ∧ ∀ x ∈ v.Items, Jy v.elm x x.inn = true := by
 rcases U1 h with ⟨h1, h2, h3⟩ | ⟨h1, h2, h3, h4, h5, h6, h7⟩
 ·omega
 obtain ⟨s1, s2, s3, s4, s5⟩ := Gg h4
 have hn := s2 hk
 have hkx : ∀ x ∈ v.Items, x.Kind = v.N' := fun x hx => by
  have := (h7 x hx).2 hk
  rw [Q15 (h7 x hx).1] at this; exact this
 have hlast : Jr v.N' ∈ X4 v.N' := by
  have hb := Q7b (k := v.N') (by omega)
  unfold Qlk at hb
  rw [show ((v.N'.toNat : Nat) : Int) = v.N' by omega] at hb
  simp only [Bool.or_eq_true, Bool.not_eq_true', decide_eq_false_iff_not, Bool.and_eq_true, List.contains_iff_mem] at hb
  rcases hb with hb | ⟨hm, _⟩
  ·omega
  ·exact hm
 obtain ⟨g1, g2⟩ := Qft (k := v.N') (l := v.prs) ⟨Jr v.N', hlast, by
  unfold Qm0 Q0.prs
  rw [List.all_map, List.all_eq_true]
  intro x hx
  have hkk := hkx x hx
  have := (Qcv (hf.items x hx) (h7 x hx).1 (by omega) x.inn).2
  rw [hkk] at this
  exact this⟩
 refine ⟨g1, fun x hx => ?_⟩
 have := List.all_eq_true.1 g2 (x, x.inn) (by unfold Q0.prs; exact List.mem_map.2 ⟨x, hx, rfl⟩)
 exact this
theorem Qld {v : Q0} {m : Int} (hf : Fine v) (h : Yx v m = 0) (hk : v.Kind ≠ 25) : v.cod ∈ X4 v.Kind ∧ Jy v.cod v v.inn = true := by
 obtain ⟨l1, l2⟩ := Qcv hf h hk v.inn
 obtain ⟨g1, g2⟩ := Qft (k := v.Kind) (l := [(v, v.inn)]) ⟨Jr v.Kind, l1, by simp [Qm0, l2]⟩
 exact ⟨g1, by unfold Q0.cod; simpa [Qm0] using g2⟩
mutual
def Q0.wgt : Q0 → Nat
 | .mk _ _ t is => t.length + 30 + Q0.wgts is
def Q0.wgts : List Q0 → Nat
 | [] => 0
 | v :: l => v.wgt + Q0.wgts l
end
theorem Q0.wgt_eq (v : Q0) : v.wgt = v.Text.length + 30 + Q0.wgts v.Items := by cases v; simp only [Q0.wgt]
theorem Q73 : ∀ (l : List Q0), ∀ x ∈ l, x.wgt ≤ Q0.wgts l
 | v :: l, x, hx => by
  simp only [Q0.wgts]
  rcases List.mem_cons.1 hx with rfl | hx
  ·omega
  ·have := Q73 l x hx; omega
theorem Qbf (code : Int) : 0 ≤ (ofS code).Width ∧ (ofS code).Width.toNat ≤ 16 := by
 cases h : ofB code with
 | false => rw [Qak code h]; decide
 | true =>
  have hw := Q6q code h
  cases hi : (ofS code).Items with
  | false =>
   cases hw.shape hi with
   | sized w hs hw' h12 hk2 hc => rw [hw']; omega
   | wide hs hw' hk2 hc => rw [hw']; decide
   | num w hs hw' hh ht hc hbb => rw [hw']; omega
  | true =>
   obtain ⟨h1, h2⟩ := Vj h hi
   cases hs : (ofS code).Sized with
   | true => have := (h1 hs).1; omega
   | false =>
    have : (ofS code).Width = 0 := (Qgo (P := fun t => t.2.2.2.2 = true → t.2.2.2.1 = false → t.2.2.1 = 0) (B := fun k => !(Wb k).2.2.2.2 || ((Wb k).2.2.2.1 || decide ((Wb k).2.2.1 = 0))) (by decide +kernel) (fun k hk h1 h2 => by simpa [h1, h2] using hk) h) hi hs
    omega
theorem Qis (code : Int) (v : Q0) : (Qb8 code v).1.length ≤ v.Text.length + 16 := by
 unfold Qb8
 split
 ·simp
 ·split
  ·simp
  ·rename_i hf
   have hf : Vi code v = true := by simpa using hf
   have := Q3e hf
   have := Qbf code
   simp only []
   split at * <;> omega
theorem Qkv (code : Int) (v : Q0) (b : List UInt8) : (Yz code v b).length ≤ v.Text.length + 16 + b.length := by
 unfold Yz
 split
 ·have := Qis code v; omega
 ·rename_i hi
  have hi : (ofS code).Items = true := by simpa using hi
  split
  ·simp
  ·rename_i hs
   have hs : (ofS code).Sized = true := by simpa using hs
   have hw : (ofS code).Width.toNat ≤ 4 := by
    cases h : ofB code with
    | false => rw [Qak code h]; decide
    | true => have := (Vj h hi).1 hs; omega
   simp [X6]; omega
theorem Q5r (v : Q0) : v.inn.length ≤ 1 + Q0.wgts v.Items ∧ v.byt.length ≤ v.wgt ∧ ∀ c, (Yz c v v.inn).length + 1 ≤ v.wgt := by
 induction v using Q0.ind with
 | h v ih =>
  have s1 : ∀ (l : List Q0), (∀ x ∈ l, x.byt.length ≤ x.wgt) → (l.map Q0.byt).flatten.length ≤ Q0.wgts l := by
   intro l
   induction l with
   | nil => intro _; simp
   | cons x l ihl =>
    intro h
    have h1 := h x (.head _)
    have h2 := ihl (fun y hy => h y (.tail _ hy))
    simp only [List.map_cons, List.flatten_cons, List.length_append, Q0.wgts]; omega
  have s2 : ∀ (c : Int) (l : List Q0), (∀ x ∈ l, ∀ c, (Yz c x x.inn).length + 1 ≤ x.wgt) → (l.map fun x => Yz c x x.inn).flatten.length ≤ Q0.wgts l := by
   intro c l
   induction l with
   | nil => intro _; simp
   | cons x l ihl =>
    intro h
    have h1 := h x (.head _) c
    have h2 := ihl (fun y hy => h y (.tail _ hy))
    simp only [List.map_cons, List.flatten_cons, List.length_append, Q0.wgts]; omega
  have hin : v.inn.length ≤ 1 + Q0.wgts v.Items := by
   rw [Q5f]
   split
   ·have := s2 v.elm v.Items (fun x hx => (ih x hx).2.2)
    simp only [List.length_cons]; omega
   ·split
    ·simp
    ·have := s1 v.Items (fun x hx => (ih x hx).2.1)
     omega
  have hd : ∀ c, (Yz c v v.inn).length + 1 ≤ v.wgt := fun c => by
   have := Qkv c v v.inn
   rw [v.wgt_eq]; omega
  refine ⟨hin, ?_, hd⟩
  rw [Qdx]
  split
  ·have := s1 v.Items (fun x hx => (ih x hx).2.1)
   rw [v.wgt_eq]; simp only [List.length_cons]; omega
  ·have := hd v.cod
   simp only [List.length_cons]; omega
end
end Go.Av
namespace Go.Av
noncomputable section
open Go.Proofs
set_option maxRecDepth 100000
theorem Q4f {rd : List UInt8 → Rd} {e : Q0 → List UInt8} : ∀ (l acc : List Q0) (rest : List UInt8), (∀ x ∈ l, ∀ t, rd (e x ++ t) = (x, ((e x).length : Int), 0)) → U9 rd l.length ((l.map e).flatten ++ rest) acc = ((acc ++ l, rest), 0)
 | [], acc, rest, _ => by simp [U9]
 | x :: l, acc, rest, h => by
  have h1 := h x (.head _) ((l.map e).flatten ++ rest)
  rw [List.length_cons, U9, List.map_cons, List.flatten_cons, List.append_assoc, h1]
  simp only [ne_eq, not_true_eq_false, if_false, Int.toNat_natCast, List.drop_left]
  rw [Q4f l (acc ++ [x]) rest (fun y hy => h y (.tail _ hy))]
  simp
theorem Q7x {c : Int} (h : 0 ≤ c ∧ c < 256) : ((Q8m c).toNat : Int) = c := by
 unfold Q8m
 rw [UInt8.toNat_ofNat']
 omega
theorem of0 : ofB 0 = true ∧ (ofS 0).Kind = 25 ∧ (ofS 0).Items = true := by decide +kernel
theorem Qgk {code : Int} (h : ofB code = true) (hi : (ofS code).Items = true) (hs : (ofS code).Sized = false) : (ofS code).Width = 0 :=
 (Qgo (P := fun t => t.2.2.2.2 = true → t.2.2.2.1 = false → t.2.2.1 = 0) (B := fun k => !(Wb k).2.2.2.2 || ((Wb k).2.2.2.1 || decide ((Wb k).2.2.1 = 0))) (by decide +kernel) (fun k hk h1 h2 => by simpa [h1, h2] using hk) h) hi hs
theorem Qfj {k num : Int} {l : List Q0} {tot : Nat} (hk : Gn ⟨k, num, [], l⟩ = 0) : Qcw k num ((l, []), 0) tot = (⟨k, num, [], l⟩, (tot : Int), 0) := by
 unfold Qcw
 rw [if_neg (by simp), if_neg (by simp), if_neg (by simp [hk])]
theorem Qjy {n w : Nat} (s : List UInt8) (h : n < 256 ^ w) : Q17 ((Uc n w ++ s).take w) = n := by
 rw [List.take_left' (X6 w n), Q4g, Nat.mod_eq_of_lt h]
theorem Qhz {d : Int → List UInt8 → Rd} {c : Qh} {v : Q0} {w : Nat} (hw : c.Width = (w : Int)) (hk : c.Kind = v.Kind) (hs : c.Sized = true) (hn : v.Items.length < 256 ^ w) (hl : v.inn.length + w < 256 ^ w) (hn2 : v.Items.length ≤ 1000)
  (h23 : v.Kind = 23 → v.Items.length % 2 = 0) (hkeys : Gn v = 0) (ht : v.Text = []) (hnum : v.Kind ≠ 24 → v.N' = 0)
  (h24 : v.Kind = 24 → ofB v.elm = true ∧ v.elm ≠ 0 ∧ (ofS v.elm).Kind = v.N' ∧ ∀ x ∈ v.Items, ∀ t, d v.elm (Yz v.elm x x.inn ++ t) = (x, ((Yz v.elm x x.inn).length : Int), 0))
  (hot : v.Kind ≠ 24 → v.Kind ≠ 25 ∧ ∀ x ∈ v.Items, ∀ t, Yq d (x.byt ++ t) = (x, (x.byt.length : Int), 0)) (s : List UInt8) :
  Q55 d c (Uc (v.inn.length + w) w ++ (Uc v.Items.length w ++ v.inn) ++ s) = (v, ((Uc (v.inn.length + w) w ++ (Uc v.Items.length w ++ v.inn)).length : Int), 0) := by
 have hwn : c.Width.toNat = w := by rw [hw]; rfl
 have e0 : (Uc (v.inn.length + w) w ++ (Uc v.Items.length w ++ v.inn) ++ s) = Uc (v.inn.length + w) w ++ ((Uc v.Items.length w ++ v.inn) ++ s) := by rw [List.append_assoc]
 have hlen : (Uc (v.inn.length + w) w ++ ((Uc v.Items.length w ++ v.inn) ++ s)).length = w + (w + v.inn.length + s.length) := by simp [X6]; omega
 unfold Q55
 rw [hwn, e0, Qjy _ hl, if_neg (by rw [hlen]; omega), if_neg (by rw [hlen]; omega), List.drop_left' (X6 w _),
  List.take_left' (show (Uc v.Items.length w ++ v.inn).length = v.inn.length + w by simp [X6]; omega)]
 unfold Qnt
 rw [if_neg (by simp [X6]), Qjy _ hn, if_neg (by omega), if_neg (by rw [hk]; intro h; exact h.2 (h23 h.1)), List.drop_left' (X6 w _)]
 have hv : ∀ num, num = v.N' → (⟨c.Kind, num, [], v.Items⟩ : Q0) = v := fun num h => by
  apply Q0.ext' <;> simp [hk, ht, h]
 have htot : ((w + (v.inn.length + w) : Nat) : Int) = ((Uc (v.inn.length + w) w ++ (Uc v.Items.length w ++ v.inn)).length : Int) := by simp [X6]; omega
 by_cases h4 : v.Kind = 24
 ·obtain ⟨g1, g2, g3, g4⟩ := h24 h4
  have hr := Q31 g1
  rw [if_pos (by omega)]
  have hin := Q5f v
  rw [if_pos h4] at hin
  rw [hin]
  simp only [Qsn]
  rw [← hin, Q7x hr, if_neg (by
   rintro (h | h)
   ·rw [g1] at h; cases h
   ·have := Q7x hr; omega)]
  have := Q4f (rd := d v.elm) (e := fun x => Yz v.elm x x.inn) v.Items [] [] g4
  rw [List.append_nil, List.nil_append] at this
  rw [this, Qfj (by rw [hv _ g3]; exact hkeys), hv _ g3, htot]
 ·obtain ⟨g1, g2⟩ := hot h4
  rw [if_neg (by omega)]
  have hin := Q5f v
  rw [if_neg h4, if_neg g1] at hin
  have := Q4f (rd := Yq d) (e := Q0.byt) v.Items [] [] g2
  rw [List.append_nil, List.nil_append, ← hin] at this
  rw [this, Qfj (by rw [hv 0 (hnum h4).symm]; exact hkeys), hv 0 (hnum h4).symm, htot]
theorem Qk2 {v x : Q0} (hx : x ∈ v.Items) : x.wgt ≤ v.wgt := by
 have := Q73 _ x hx
 rw [v.wgt_eq]; omega
theorem Qne (v : Q0) : ∀ m : Nat, Fine v → Yx v m = 0 → v.wgt < 4000000000 →
  (∀ c, ofB c = true → (ofS c).Kind = v.Kind → v.Kind ≠ 25 → Jy c v v.inn = true → ∀ s, V4 m c (Yz c v v.inn ++ s) = (v, ((Yz c v v.inn).length : Int), 0)) ∧
  ∀ s, Yq (V4 m) (v.byt ++ s) = (v, (v.byt.length : Int), 0) := by
 induction v using Q0.ind with
 | h v ih =>
  intro m hf hc hw
  have hP : ∀ c, ofB c = true → (ofS c).Kind = v.Kind → v.Kind ≠ 25 → Jy c v v.inn = true → ∀ s, V4 m c (Yz c v v.inn ++ s) = (v, ((Yz c v v.inn).length : Int), 0) := by
   intro c c1 c2 c3 c4 s
   rcases U1 hc with ⟨k1, k2, k3⟩ | ⟨k1, k2, k3, k4, k5, k6, k7⟩
   ·have hi := Vn (Q6q c c1) (by omega)
    unfold Jy at c4
    rw [if_pos hi] at c4
    have hd : Yz c v v.inn = Jj (ofS c) v := by unfold Yz; rw [if_pos hi, Qcj c4]
    rw [hd, Q8i c1 hi]
    exact Qr1 hf.num c4 s
   ·obtain ⟨m', rfl⟩ : ∃ m', m = m' + 1 := ⟨m - 1, by omega⟩
    have hi : (ofS c).Items = true := by rw [(Q6q c c1).items, c2]; simp; omega
    obtain ⟨s1, s2, s3, s4, s5⟩ := Gg k4
    have hit : ∀ x ∈ v.Items, Yx x ((m' : Nat) : Int) = 0 := fun x hx => by
     have := (k7 x hx).1
     rwa [show (((m' + 1 : Nat) : Int) - 1) = (m' : Int) by omega] at this
    rw [Q61 c1 hi, Qg7, if_neg (by omega)]
    unfold Jy at c4
    rw [if_neg (by simp [hi])] at c4
    obtain ⟨q1, q2⟩ := Vj c1 hi
    have hlen := (Q5r v).1
    rw [v.wgt_eq] at hw
    by_cases hs : (ofS c).Sized = true
    ·rw [if_neg (by simp [hs])]
     have hd : Yz c v v.inn = Uc (v.inn.length + (ofS c).Width.toNat) (ofS c).Width.toNat ++ (Uc v.Items.length (ofS c).Width.toNat ++ v.inn) := by
      unfold Yz
      rw [if_neg (by simp [hi]), if_neg (by simp [hs])]
     rw [hd]
     obtain ⟨w1, w2⟩ := q1 hs
     have c5 : (ofS c).Width = 4 ∨ (v.Items.length < 256 ∧ v.inn.length + 1 < 256) := by
      rw [if_neg (by omega)] at c4
      simpa using c4
     refine Qhz (w := (ofS c).Width.toNat) (by have := Qbf c; omega) c2 hs ?_ ?_ k5 s5 k6 s1 s3 (fun h4 => ?_) (fun h4 => ⟨c3, fun x hx t => (ih x hx m' (hf.items x hx) (hit x hx) (by have := Q73 _ x hx; omega)).2 t⟩) s
     ·rcases w1 with w1 | w1
      ·rw [w1] at c5 ⊢; show v.Items.length < 256 ^ 1; omega
      ·rw [w1]; show v.Items.length < 256 ^ 4; omega
     ·rcases w1 with w1 | w1
      ·rw [w1] at c5 ⊢; show v.inn.length + 1 < 256 ^ 1; omega
      ·rw [w1]; show v.inn.length + 4 < 256 ^ 4; omega
     ·obtain ⟨e1, e2⟩ := Qgi hf hc h4
      obtain ⟨d1, d2, d3⟩ := Q03 _ _ e1
      have hnn := s2 h4
      refine ⟨d1, fun h0 => ?_, d3, fun x hx t => ?_⟩
      ·rw [h0] at d3
       have := of0.2.1
       omega
      ·have hkx : x.Kind = v.N' := by
        have := (k7 x hx).2 h4
        rwa [Q15 (k7 x hx).1] at this
       exact (ih x hx m' (hf.items x hx) (hit x hx) (by have := Q73 _ x hx; omega)).1 v.elm d1 (by rw [d3, hkx]) (by omega) (e2 x hx) t
    ·have hs : (ofS c).Sized = false := by simpa using hs
     rw [if_pos hs]
     have hw0 := Qgk c1 hi hs
     rw [if_pos hw0] at c4
     have hl0 : v.Items = [] := List.length_eq_zero_iff.1 (by simpa using c4)
     have hk := q2 hs
     have hd : Yz c v v.inn = [] := by
      unfold Yz
      rw [if_neg (by simp [hi]), if_pos hs]
     rw [hd]
     have hve : (⟨(ofS c).Kind, 0, [], []⟩ : Q0) = v := by
      apply Q0.ext' <;> simp [c2, s1, hl0]
      exact (s3 (by omega)).symm
     rw [hve]; rfl
  refine ⟨hP, fun s => ?_⟩
  by_cases h5 : v.Kind = 25
  ·rcases U1 hc with ⟨k1, k2, k3⟩ | ⟨k1, k2, k3, k4, k5, k6, k7⟩
   ·omega
   obtain ⟨m', rfl⟩ : ∃ m', m = m' + 1 := ⟨m - 1, by omega⟩
   obtain ⟨s1, s2, s3, s4, s5⟩ := Gg k4
   rw [Qdx, if_pos h5, List.cons_append, Yq]
   obtain ⟨o1, o2, o3⟩ := of0
   have hz : (((0 : UInt8).toNat : Nat) : Int) = 0 := rfl
   rw [hz, Q61 o1 o3, Qg7, if_pos o2]
   have hr := Q4f (rd := Yq (V4 m')) (e := Q0.byt) v.Items [] s (fun x hx t => (ih x hx m' (hf.items x hx) (by
    have := (k7 x hx).1
    rwa [show (((m' + 1 : Nat) : Int) - 1) = (m' : Int) by omega] at this) (by have := Qk2 hx; omega)).2 t)
   rw [s4 h5, List.nil_append] at hr
   have hv : (⟨25, 0, [], v.Items⟩ : Q0) = v := by
    apply Q0.ext' <;> simp [h5, s1]
    exact (s3 (by omega)).symm
   unfold Qeh
   rw [hr, if_neg (by simp), hv, if_neg (by simp)]
   simp only [Prod.mk.injEq, true_and, and_true]
   simp
  ·obtain ⟨g1, g2⟩ := Qld hf hc h5
   obtain ⟨d1, d2, d3⟩ := Q03 _ _ g1
   rw [Qdx, if_neg h5, List.cons_append, Yq, Q7x (Q31 d1), hP v.cod d1 d3 h5 g2 s, if_neg (by simp)]
   simp
end
end Go.Av
namespace Go.Av
noncomputable section
open Go.Proofs
set_option maxRecDepth 100000
def Q2l (v : Q0) : Int := if nnS v = true then (if v.Kind = 11 then 2143289344 else 9221120237041090560) else v.N'
mutual
def Q0.nrm : Q0 → Q0
 | .mk k n t is => ⟨k, Q2l ⟨k, n, t, is⟩, t, Q0.nrms is⟩
def Q0.nrms : List Q0 → List Q0
 | [] => []
 | v :: l => v.nrm :: Q0.nrms l
end
theorem Qk7 : ∀ l, Q0.nrms l = l.map Q0.nrm
 | [] => rfl
 | v :: l => by rw [Q0.nrms, Qk7 l]; rfl
theorem Q4q (v : Q0) : v.nrm = ⟨v.Kind, Q2l v, v.Text, v.Items.map Q0.nrm⟩ := by cases v; rw [Q0.nrm, Qk7]
theorem Q1q (v : Q0) : v.nrm.Kind = v.Kind := by rw [Q4q]
theorem Q71 (v : Q0) : v.nrm.Text = v.Text := by rw [Q4q]
theorem Jv (v : Q0) : v.nrm.Items = v.Items.map Q0.nrm := by rw [Q4q]
theorem Q89 (v : Q0) : v.nrm.N' = Q2l v := by rw [Q4q]
theorem Qtj (x : Int) : Q8 .neq x 0 = decide (x ≠ 0) := by rw [Bool.eq_iff_iff, J0]; simp
theorem Q3z (v : Q0) : nnS v = ((decide (v.Kind = 11) && (decide (Jw .u64 (Q1d .u64 v.N' 23) 255 = 255) && decide (Ut .u64 v.N' 41 ≠ 0))) || (decide (v.Kind = 12) && (decide (Jw .u64 (Q1d .u64 v.N' 52) 2047 = 2047) && decide (Ut .u64 v.N' 12 ≠ 0)))) := by
 have h := Qpk 0 v
 unfold Z6 at h
 simp only [Q9, V5] at h
 by_cases k1 : v.Kind = 11
 ·have k2 : ¬ v.Kind = 12 := by omega
  rw [if_pos k1] at h
  split at h
  ·rename_i h1
   simp only [Option.some.injEq] at h
   rw [← h]
   rw [Qtj]
   simp [k1, h1]
  ·rename_i h1
   simp only [Option.some.injEq] at h
   rw [← h]
   simp [k1, h1]
 ·rw [if_neg k1] at h
  by_cases k2 : v.Kind = 12
  ·rw [if_pos k2] at h
   split at h
   ·rename_i h1
    simp only [Option.some.injEq] at h
    rw [← h]
    rw [Qtj]
    simp [k2, h1]
   ·rename_i h1
    simp only [Option.some.injEq] at h
    rw [← h]
    simp [k2, h1]
  ·rw [if_neg k2] at h
   simp only [Option.some.injEq] at h
   rw [← h]
   simp [k1, k2]
theorem Q8b {v : Q0} (h : nnS v = true) : v.Kind = 11 ∨ v.Kind = 12 := by
 rw [Q3z] at h
 simp only [Bool.or_eq_true, Bool.and_eq_true, decide_eq_true_eq] at h
 omega
theorem Q83 {v w : Q0} (h1 : v.Kind = w.Kind) (h2 : v.N' = w.N') : nnS v = nnS w := by rw [Q3z, Q3z, h1, h2]
theorem Qbz (k : Int) (t : List UInt8) (is : List Q0) (h : k = 11 ∨ k = 12) : nnS ⟨k, if k = 11 then 2143289344 else 9221120237041090560, t, is⟩ = true := by
 rcases h with rfl | rfl
 ·exact (Q83 (w := ⟨11, 2143289344, [], []⟩) rfl rfl).trans (by rw [Q3z]; decide)
 ·exact (Q83 (w := ⟨12, 9221120237041090560, [], []⟩) rfl rfl).trans (by rw [Q3z]; decide)
theorem Ql2 {v : Q0} (h : nnS v = true) : Q2l v = if v.Kind = 11 then 2143289344 else 9221120237041090560 := by unfold Q2l; rw [if_pos h]
theorem Qbn {v : Q0} (h : nnS v = false) : Q2l v = v.N' := by unfold Q2l; rw [if_neg (by simp [h])]
theorem Qrp (v : Q0) : nnS v.nrm = nnS v := by
 cases h : nnS v with
 | true =>
  have hk := Q8b h
  rw [Q4q]
  unfold Q2l
  rw [if_pos h]
  exact Qbz _ _ _ hk
 | false =>
  rw [← h]
  refine Q83 (Q1q v) ?_
  rw [Q89]
  unfold Q2l
  rw [if_neg (by simp [h])]
theorem Qli (v : Q0) : v.nrm.sz = v.sz := by
 induction v using Q0.ind with
 | h v ih =>
  have hl : ∀ l : List Q0, (∀ x ∈ l, x.nrm.sz = x.sz) → Q0.szs (l.map Q0.nrm) = Q0.szs l := by
   intro l
   induction l with
   | nil => intro _; rfl
   | cons x l ihl => intro h; simp only [List.map_cons, Q0.szs, h x (.head _), ihl (fun y hy => h y (.tail _ hy))]
  rw [Q0.sz_eq, Jv, hl _ ih, v.sz_eq]
theorem Qqo (v : Q0) : v.nrm.wgt = v.wgt := by
 induction v using Q0.ind with
 | h v ih =>
  have hl : ∀ l : List Q0, (∀ x ∈ l, x.nrm.wgt = x.wgt) → Q0.wgts (l.map Q0.nrm) = Q0.wgts l := by
   intro l
   induction l with
   | nil => intro _; rfl
   | cons x l ihl => intro h; simp only [List.map_cons, Q0.wgts, h x (.head _), ihl (fun y hy => h y (.tail _ hy))]
  rw [Q0.wgt_eq, Jv, hl _ ih, v.wgt_eq, Q71]
theorem Qn9 {v : Q0} (h : okU v.N') : okU (Q2l v) := by
 unfold Q2l
 split
 ·split <;> exact ⟨by omega, by omega⟩
 ·exact h
theorem Qnk {v : Q0} (h : Fine v) : Fine v.nrm := by
 induction v using Q0.ind with
 | h v ih =>
  refine .mk _ (by rw [Q89]; exact Qn9 h.num) (by rw [Q71]; exact h.text) (fun x hx => ?_)
  rw [Jv] at hx
  obtain ⟨y, hy, rfl⟩ := List.mem_map.1 hx
  exact ih y hy (h.items y hy)
theorem Q80 {v : Q0} (h : v.Kind ≠ 11 ∧ v.Kind ≠ 12) : Q2l v = v.N' := by
 unfold Q2l
 rw [if_neg (fun hn => by have := Q8b hn; omega)]
theorem Qe3 : ∀ (n : Nat) (a b : Q0), a.sz ≤ n → Q0j a.nrm b.nrm = true → Q0j a b = true
 | 0, a, b, h, _ => by have := a.sz_eq; omega
 | n + 1, a, b, h, hh => by
  have hs := a.sz_eq
  rw [Q8s] at hh ⊢
  simp only [Q1q, Q71, Jv, Q89, Qrp, List.length_map, Bool.and_eq_true, Bool.or_eq_true, decide_eq_true_eq] at hh ⊢
  obtain ⟨h1, h2, h3, h4, h5⟩ := hh
  refine ⟨h1, h2, h3, ?_, ?_⟩
  ·rcases h4 with h4 | h4
   ·cases na : nnS a <;> cases nb : nnS b
    ·left; rw [Qbn na, Qbn nb] at h4; exact h4
    ·rw [Qbn na, Ql2 nb] at h4
     have hk := Q8b nb
     have : nnS a = true := by
      rw [← Qbz a.Kind [] [] (by omega)]
      refine Q83 rfl ?_
      show a.N' = _
      rw [h4, h1]
     rw [na] at this; cases this
    ·rw [Ql2 na, Qbn nb] at h4
     have hk := Q8b na
     have : nnS b = true := by
      rw [← Qbz b.Kind [] [] (by omega)]
      refine Q83 rfl ?_
      show b.N' = _
      rw [← h4, h1]
     rw [nb] at this; cases this
    ·right; exact ⟨rfl, rfl⟩
   ·right; exact h4
  ·have hl : ∀ (l m : List Q0), Q0.szs l ≤ n → Gm (l.map Q0.nrm) (m.map Q0.nrm) = true → Gm l m = true := by
    intro l
    induction l with
    | nil => intro m _ _; rfl
    | cons x l ihl =>
     intro m hz hm
     simp only [Q0.szs] at hz
     cases m with
     | nil => simp [Gm] at hm
     | cons y m =>
      simp only [List.map_cons, Gm, Bool.and_eq_true] at hm ⊢
      exact ⟨Qe3 n x y (by omega) hm.1, ihl m (by omega) hm.2⟩
   exact hl _ _ (by omega) h5
theorem Qnb {v : Q0} (h : Gn v = 0) : Gn v.nrm = 0 := by
 unfold Gn at h ⊢
 rw [Q1q]
 split
 ·rfl
 ·rename_i hk
  rw [if_neg hk] at h
  split at h
  ·cases h
  ·rename_i hne
   rw [if_neg]
   rintro ⟨i, j, h1, h2, h3, h4, h5, x, y, hx, hy, ha⟩
   rw [Jv, List.length_map] at h3
   rw [Jv, List.getElem?_map] at hx hy
   cases hxi : v.Items[i]? with
   | none => rw [hxi] at hx; cases hx
   | some x' =>
    cases hyi : v.Items[j]? with
    | none => rw [hyi] at hy; cases hy
    | some y' =>
     rw [hxi] at hx; rw [hyi] at hy
     cases hx; cases hy
     exact hne ⟨i, j, h1, h2, h3, h4, h5, x', y', hxi, hyi, Qe3 _ x' y' (Nat.le_refl _) ha⟩
theorem Qiw {v : Q0} (h : Q4a v.Kind v.N' = true) : Q4a v.Kind (Q2l v) = true := by
 unfold Q2l
 split
 ·rename_i hn
  rcases Q8b hn with hk | hk <;> rw [hk] <;> decide
 ·exact h
theorem Qhj {v : Q0} (h : Xj v = 0) : Xj v.nrm = 0 := by
 obtain ⟨c1, c2, c3, c4, c5, c6, c7⟩ := Wx h
 unfold Xj at h ⊢
 simp only [Q1q, Q71, Jv, Q89, c4, List.map_nil] at h ⊢
 rw [Qiw c3]
 rw [c3] at h
 exact h
theorem Qhw {v : Q0} (hk : 22 ≤ v.Kind) (h : Js v = true) : Js v.nrm = true := by
 obtain ⟨s1, s2, s3, s4, s5⟩ := Gg h
 have : v.nrm = ⟨v.Kind, v.N', [], v.Items.map Q0.nrm⟩ := by rw [Q4q, Q80 (by omega), s1]
 rw [this]
 exact Qc9 s2 s3 (fun h => by rw [List.length_map]; exact s4 h) (fun h => by rw [List.length_map]; exact s5 h)
theorem Qkh (v : Q0) : ∀ m : Int, Yx v m = 0 → Yx v.nrm m = 0 := by
 induction v using Q0.ind with
 | h v ih =>
  intro m h
  rcases U1 h with ⟨k1, k2, k3⟩ | ⟨k1, k2, k3, k4, k5, k6, k7⟩
  ·rw [Gp, Q1q, if_neg (by omega), if_neg (by omega), if_pos k2]
   exact Qhj k3
  ·rw [Gp, Q1q, if_neg (by omega), if_neg (by omega), if_neg (by omega), if_neg k3, Qhw k1 k4, if_neg (by simp), Jv, List.length_map, if_neg (by omega), Qnb k6, Q89, Q80 (by omega)]
   refine Q5z _ _ _ _ (fun x hx => ?_)
   obtain ⟨y, hy, rfl⟩ := List.mem_map.1 hx
   refine ⟨ih y hy _ (k7 y hy).1, fun hk => ?_⟩
   rw [Q1q]; exact (k7 y hy).2 hk
theorem Qk4 {R : Q0 → Option Q0} {N : Nat} {v : Q0} {c : Int} (hb : v.sz < 1000000000) (hR : ∀ y ∈ v.Items, R y = some y.nrm) : ∀ (n i : Nat), i ≤ v.Items.length → v.Items.length - i < n →
  Wf R N v c n (i : Int) ((v.Items.take i).map Q0.nrm) = some ⟨v.Kind, c, v.Text, v.Items.map Q0.nrm⟩
 | 0, i, _, h => by omega
 | n + 1, i, hi, hn => by
  have hs := v.sz_eq
  have hl := Q0.szs_len v.Items
  simp only [Wf, Q9, Wm, Yg, X3]
  by_cases h : i < v.Items.length
  ·rw [if_pos (by omega), List.getElem?_eq_getElem h]
   simp only [Option.bind_some, hR _ (List.getElem_mem h)]
   rw [if_pos (by rw [Nat.ble_eq, List.length_map, List.length_take]; omega), Z5 _ (by omega)]
   have e : (v.Items.take i).map Q0.nrm ++ [v.Items[i].nrm] = (v.Items.take (i + 1)).map Q0.nrm := by
    rw [List.take_succ_eq_append_getElem h, List.map_append]; rfl
   rw [e]
   exact_mod_cast Qk4 (N := N) hb hR n (i + 1) (by omega) (by omega)
  ·rw [if_neg (by omega), List.take_of_length_le (by omega)]
theorem Qkp : ∀ (N : Nat) (v : Q0), v.sz < N → v.sz < 1000000000 → W7 N v = some v.nrm
 | 0, v, h, _ => by omega
 | N + 1, v, h, h2 => by
  have hs := v.sz_eq
  have hl := Q0.szs_len v.Items
  have hL : ∀ c, Yy (W7 N) N v c = some ⟨v.Kind, c, v.Text, v.Items.map Q0.nrm⟩ := fun c =>
   Qk4 (R := W7 N) (N := N) (v := v) h2 (fun y hy => Qkp N y (by have := Q0.szs_mem _ y hy; omega) (by have := Q0.szs_mem _ y hy; omega)) N 0 (by omega) (by omega)
  rw [Q4q]
  show U3 (W7 N) N v = _
  simp only [U3, Wd, We, hL, Q9, V5, J0]
  have hd := Q3z v
  unfold Q2l
  by_cases k1 : v.Kind = 11
  ·have k2 : ¬ v.Kind = 12 := by omega
   simp only [k1, decide_true, Bool.true_and, show decide ((11 : Int) = 12) = false from rfl, Bool.false_and, Bool.or_false] at hd
   simp only [if_pos k1, if_neg k2]
   by_cases q1 : Jw .u64 (Q1d .u64 v.N' 23) 255 = 255 <;> by_cases q2 : Ut .u64 v.N' 41 ≠ 0 <;> simp [hd, q1, q2]
  ·simp only [if_neg k1]
   by_cases k2 : v.Kind = 12
   ·simp only [k2, show decide ((12 : Int) = 11) = false from rfl, decide_true, Bool.true_and, Bool.false_and, Bool.false_or] at hd
    simp only [if_pos k2]
    by_cases q1 : Jw .u64 (Q1d .u64 v.N' 52) 2047 = 2047 <;> by_cases q2 : Ut .u64 v.N' 12 ≠ 0 <;> simp [hd, q1, q2]
   ·simp only [k1, k2, decide_false, Bool.false_and, Bool.or_false] at hd
    simp [hd, k2]
end
end Go.Av
namespace Go.Av
noncomputable section
open Go.Proofs
set_option maxRecDepth 100000
theorem Q9p {R : Q0 → Option Q0} {N : Nat} {v : Q0} (hb : v.sz < 1000000000) (hR : ∀ y ∈ v.Items, R y = some y) : ∀ (n i : Nat), i ≤ v.Items.length → v.Items.length - i < n → Zg R N v n (i : Int) (v.Items.take i) = some v
 | 0, i, _, h => by omega
 | n + 1, i, hi, hn => by
  have hs := v.sz_eq
  have hl := Q0.szs_len v.Items
  simp only [Zg, Q9, Wm, Yg, X3]
  by_cases h : i < v.Items.length
  ·rw [if_pos (by omega), List.getElem?_eq_getElem h]
   simp only [Option.bind_some, hR _ (List.getElem_mem h)]
   rw [if_pos (by rw [Nat.ble_eq, List.length_take]; omega), Z5 _ (by omega), ← List.take_succ_eq_append_getElem h]
   exact_mod_cast Q9p (N := N) hb hR n (i + 1) (by omega) (by omega)
  ·rw [if_neg (by omega), List.take_of_length_le (by omega)]
   cases v; rfl
theorem Q9t : ∀ (N : Nat) (v : Q0), v.sz < N → v.sz < 1000000000 → Zz N v = some v
 | 0, v, h, _ => by omega
 | N + 1, v, h, h2 => by
  have hs := v.sz_eq
  have hl := Q0.szs_len v.Items
  have := Q9p (R := Zz N) (N := N) (v := v) h2 (fun y hy => Q9t N y (by have := Q0.szs_mem _ y hy; omega) (by have := Q0.szs_mem _ y hy; omega)) N 0 (by omega) (by omega)
  exact this
theorem Qa5 {R : Q0 → Option Q0} {N : Nat} {v w : Q0} {c : Int} (hb : v.sz < 1000000000) (hR : ∀ y ∈ v.Items, R y = some y.nrm) : ∀ (n i : Nat), i ≤ v.Items.length → v.Items.length - i < n →
  Ym R N v w c n (i : Int) ((v.Items.take i).map Q0.nrm ++ v.Items.drop i) = some ⟨w.Kind, c, w.Text, v.Items.map Q0.nrm⟩
 | 0, i, _, h => by omega
 | n + 1, i, hi, hn => by
  have hs := v.sz_eq
  have hl := Q0.szs_len v.Items
  have hlen : ((v.Items.take i).map Q0.nrm).length = i := by rw [List.length_map, List.length_take]; omega
  simp only [Ym, Q9, Wm, Yg, X3]
  by_cases h : i < v.Items.length
  ·rw [if_pos (by omega), List.getElem?_eq_getElem h]
   simp only [Option.bind_some, hR _ (List.getElem_mem h)]
   rw [List.getElem?_append_right (by omega), hlen, Nat.sub_self, List.drop_eq_getElem_cons h]
   simp only [List.getElem?_cons_zero, Option.bind_some, Int.toNat_natCast]
   rw [Z5 _ (by omega), List.set_append_right _ _ (by omega), hlen, Nat.sub_self, List.set_cons_zero]
   have e : (v.Items.take i).map Q0.nrm ++ v.Items[i].nrm :: v.Items.drop (i + 1) = (v.Items.take (i + 1)).map Q0.nrm ++ v.Items.drop (i + 1) := by
    rw [List.take_succ_eq_append_getElem h, List.map_append, List.append_assoc]; rfl
   rw [e]
   exact_mod_cast Qa5 (N := N) hb hR n (i + 1) (by omega) (by omega)
  ·rw [if_neg (by omega), List.take_of_length_le (by omega), List.drop_of_length_le (by omega), List.append_nil]
theorem Qmr {n : Int} (h : okU n) : ((Jw .u64 n 2139095040 = 2139095040) = (Jw .u64 (Q1d .u64 n 23) 255 = 255)) ∧ ((Jw .u64 n 8388607 ≠ 0) = (Ut .u64 n 41 ≠ 0)) ∧
  ((Jw .u64 n 9218868437227405312 = 9218868437227405312) = (Jw .u64 (Q1d .u64 n 52) 2047 = 2047)) ∧ ((Jw .u64 n 4503599627370495 ≠ 0) = (Ut .u64 n 12 ≠ 0)) := by
 obtain ⟨h0, h1⟩ := h
 obtain ⟨n, rfl⟩ := Int.eq_ofNat_of_zero_le h0
 have h1 : n < 18446744073709551616 := by omega
 have e1 := Qsf n 8 23 h1 (by decide) (by decide) (by decide)
 have e2 := Qsf n 11 52 h1 (by decide) (by decide) (by decide)
 rw [show ((2 ^ 8 - 1 : Nat) : Int) = 255 from rfl, show (((2 ^ 8 - 1) * 2 ^ 23 : Nat) : Int) = 2139095040 from rfl, show ((23 : Nat) : Int) = 23 from rfl] at e1
 rw [show ((2 ^ 11 - 1 : Nat) : Int) = 2047 from rfl, show (((2 ^ 11 - 1) * 2 ^ 52 : Nat) : Int) = 9218868437227405312 from rfl, show ((52 : Nat) : Int) = 52 from rfl] at e2
 exact ⟨e1.symm, Qrt n h1, e2.symm, Qrm n h1⟩
theorem Qa4 : ∀ (N : Nat) (v : Q0), Fine v → v.sz + 1 < N → v.sz < 1000000000 → Y2 N v = some v.nrm
 | 0, v, _, h, _ => by omega
 | N + 1, v, hf, h, h2 => by
  have hs := v.sz_eq
  have hl := Q0.szs_len v.Items
  have hL : ∀ c, Zf (Y2 N) N v v c = some ⟨v.Kind, c, v.Text, v.Items.map Q0.nrm⟩ := fun c => by
   have := Qa5 (R := Y2 N) (N := N) (v := v) (w := v) (c := c) h2 (fun y hy => Qa4 N y (hf.items y hy) (by have := Q0.szs_mem _ y hy; omega) (by have := Q0.szs_mem _ y hy; omega)) N 0 (by omega) (by omega)
   simpa [Zf] using this
  rw [Q4q]
  show Wo (Y2 N) N v = _
  obtain ⟨b1, b2, b3, b4⟩ := Qmr hf.num
  simp only [Wo, Q9t N v (by omega) h2, Option.bind_some, Yo, Zs, Yh, hL, Q9, V5, J0, b1, b2, b3, b4]
  have hd := Q3z v
  unfold Q2l
  by_cases k1 : v.Kind = 11
  ·have k2 : ¬ v.Kind = 12 := by omega
   simp only [k1, decide_true, Bool.true_and, show decide ((11 : Int) = 12) = false from rfl, Bool.false_and, Bool.or_false] at hd
   simp only [if_pos k1, if_neg k2]
   by_cases q1 : Jw .u64 (Q1d .u64 v.N' 23) 255 = 255 <;> by_cases q2 : Ut .u64 v.N' 41 ≠ 0 <;> simp [hd, q1, q2]
  ·simp only [if_neg k1]
   by_cases k2 : v.Kind = 12
   ·simp only [k2, show decide ((12 : Int) = 11) = false from rfl, decide_true, Bool.true_and, Bool.false_and, Bool.false_or] at hd
    simp only [if_pos k2]
    by_cases q1 : Jw .u64 (Q1d .u64 v.N' 52) 2047 = 2047 <;> by_cases q2 : Ut .u64 v.N' 12 ≠ 0 <;> simp [hd, q1, q2]
   ·simp only [k1, k2, decide_false, Bool.false_and, Bool.or_false] at hd
    simp [hd, k2]
end
end Go.Av
