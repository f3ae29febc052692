/- Part of the proof of CrossBack: for every input the law returns true; no condition. -/
import Derived.Test.YthdffmbnmkmhlaaGreatDoorLiftF3
import Derived.Test.YthdffmbnmkmhlaaGreatDoorAvTac
import Derived.Test.YthdffmbnmkmhlaaGreatDoorOks
open Go.IntKind (wrap)
namespace Go.Av
noncomputable section
open Go.Proofs
theorem Q9 {α : Type} (b : Bool) (x y : α) : cond b x y = if b = true then x else y := by cases b <;> rfl
@[simp] theorem Wm (x y : Int) : (Q3 .lss x y = true) = (x < y) := by simp [Q3]
@[simp] theorem Q7c (x y : Int) : (Q3 .leq x y = true) = (x ≤ y) := by simp [Q3]
@[simp] theorem Q9m (x y : Int) : (Q3 .gtr x y = true) = (x > y) := by simp [Q3]
@[simp] theorem Qfb (x y : Int) : (Q3 .geq x y = true) = (x ≥ y) := by simp [Q3]
@[simp] theorem J6 (x y : Int) : (Q3 .eql x y = true) = (x = y) := by simp [Q3]
@[simp] theorem Q01 (x y : Int) : (Q3 .neq x y = true) = (x ≠ y) := by simp [Q3]
theorem Z1 (x : Int) (h : -9223372036854775808 ≤ x ∧ x ≤ 9223372036854775807) : wrap .i64 x = x := IntWalk.i64_in x h
mutual
def Q0.sz : Q0 → Nat
 | .mk _ _ _ is => 1 + Q0.szs is
def Q0.szs : List Q0 → Nat
 | [] => 0
 | v :: l => v.sz + Q0.szs l
end
theorem Q0.sz_eq (v : Q0) : v.sz = 1 + Q0.szs v.Items := by cases v; simp [Q0.sz]
theorem Q0.szs_len : ∀ l : List Q0, l.length ≤ Q0.szs l
 | [] => by simp
 | v :: l => by
  have h1 := Q0.szs_len l;have h2 := Q0.sz_eq v;simp only [Q0.szs, Lz];omega
theorem Q0.szs_mem : ∀ (l : List Q0) (v : Q0), v ∈ l → v.sz ≤ Q0.szs l
 | [], v, h => by cases h
 | u :: l, v, h => by
  simp only [Q0.szs]
  rcases Mf.1 h with rfl | h
  ·omega
  have := Q0.szs_mem l v h; omega
noncomputable instance : DecidableEq Q0 := fun a b => Classical.propDecidable (a = b)
theorem Qh (l : List Q0) : (Q0.rows l).length = l.length := by rw [Q0.rows_eq, Q5]
theorem Zs {α : Type} (l : List α) (i : Nat) : idx l (i : Int) = l[i]? := rfl
theorem Qc9 {R : Q0 → Q0 → Option Bool} {N : Nat} {a b : Q0} (hlen : a.Items.length = b.Items.length) (hb : a.Items.length < 4611686018427387904)
  (hR : ∀ y ∈ a.Items, ∀ z, R y z = some (decide (y = z))) : ∀ (n i : Nat), i ≤ a.Items.length → a.Items.length - i < n →
  Zw R N a b n (i : Int) = some (decide (a.Items.drop i = b.Items.drop i))
 | 0, i, _, h => by omega
 | n + 1, i, h1, h2 => by
  simp only [Zw, Q9, Wm, Qh]
  by_cases hi : i < a.Items.length
  ·rw [if_pos (by omega), Zs, Zs, La hi, La (show i < b.Items.length by omega)];simp only [Lb, hR _ (Lp hi)];rw [Z1 _ (by omega)];have ih := Qc9 (N := N) hlen hb hR n (i + 1) (by omega) (by omega);rw [Ln hi, Ln (show i < b.Items.length by omega)]
   by_cases he : a.Items[i] = b.Items[i]
   ·rw [← he]; simp only [decide_true, Mg, Lf, if_false, Bb, true_and]
    exact_mod_cast ih
   have hne : ¬ (a.Items[i] :: List.drop (i + 1) a.Items = b.Items[i] :: List.drop (i + 1) b.Items) := fun e => he (List.cons.inj e).1;simp only [he, decide_false, Bh, if_true];rw [decide_eq_false hne]
  rw [if_neg (by omega), Lm (by omega), Lm (by omega)];simp
theorem Q09 (x y : List UInt8) : (Q35 .neq x y = true) = (x ≠ y) := by simp [Q35]
theorem Qci : ∀ (N : Nat) (a b : Q0), a.sz < N → a.sz < 1000000000 → Ys N a b = some (decide (a = b))
 | 0, a, b, h, _ => by have := a.sz_eq; omega
 | N + 1, a, b, h, h2 => by
  have hs := a.sz_eq;have hl := Q0.szs_len a.Items;simp only [Ys, Uo, Q9, Q01, Q09, Qh]
  by_cases e1 : a.Kind = b.Kind
  ·by_cases e2 : a.N' = b.N'
   ·by_cases e3 : a.Text = b.Text
    ·by_cases e4 : a.Items.length = b.Items.length
     ·rw [if_neg (by simp [e1]), if_neg (by simp [e2]), if_neg (by simp [e3]), if_neg (by simp [e4])];have := Qc9 (N := N) (R := Ys N) e4 (by omega) (fun y hy z => Qci N y z (by have := Q0.szs_mem _ y hy; omega) (by have := Q0.szs_mem _ y hy; omega)) N 0 (by omega) (by omega);rw [show (0 : Int) = ((0 : Nat) : Int) from rfl, this];cases a; cases b; simp_all
     rw [if_neg (by simp [e1]), if_neg (by simp [e2]), if_neg (by simp [e3]), if_pos (by omega)];have : a ≠ b := fun e => e4 (by rw [e]);simp [this]
    rw [if_neg (by simp [e1]), if_neg (by simp [e2]), if_pos (by simpa using e3)];have : a ≠ b := fun e => e3 (by rw [e]);simp [this]
   rw [if_neg (by simp [e1]), if_pos (by simpa using e2)];have : a ≠ b := fun e => e2 (by rw [e]);simp [this]
  rw [if_pos (by simpa using e1)];have : a ≠ b := fun e => e1 (by rw [e]);simp [this]
end
end Go.Av
namespace Go.Av
noncomputable section
open Go.Proofs
mutual
def Q0.txt : Q0 → Prop
 | .mk _ _ t is => t.length ≤ 400 ∧ Q0.txts is
def Q0.txts : List Q0 → Prop
 | [] => True
 | v :: l => v.txt ∧ Q0.txts l
end
theorem Q0.txt_eq (v : Q0) : v.txt = (v.Text.length ≤ 400 ∧ Q0.txts v.Items) := by cases v; simp [Q0.txt]
theorem Q0.szs_app : ∀ l m : List Q0, Q0.szs (l ++ m) = Q0.szs l + Q0.szs m
 | [], m => by simp [Q0.szs]
 | v :: l, m => by simp [Q0.szs, Q0.szs_app l m]; omega
theorem Q0.txts_app : ∀ l m : List Q0, Q0.txts (l ++ m) = (Q0.txts l ∧ Q0.txts m)
 | [], m => by simp [Q0.txts]
 | v :: l, m => by simp [Q0.txts, Q0.txts_app l m, and_assoc]
theorem Qnz {R : Q0 → Int → Int → Option Int} {N : Nat} {v : Q0} {deep most : Int} (hd : 0 ≤ deep ∧ deep ≤ 6) (hm : 0 ≤ most ∧ most ≤ 40) (hl : (v.Items.length : Int) ≤ most)
  (hR : ∀ y (m : Int), 0 ≤ m → m ≤ 40 → ∃ r, R y (deep - 1) m = some r ∧ 1 ≤ r ∧ r ≤ m + 1 ∧ (r ≤ m → r = y.sz ∧ y.txt)) : ∀ (n : Nat) (k : Int) (i : Nat), i ≤ v.Items.length → v.Items.length - i < n →
  1 ≤ k → k ≤ most + 1 → (k ≤ most → k = 1 + Q0.szs (v.Items.take i) ∧ Q0.txts (v.Items.take i)) →
  ∃ r, Zn R N v deep most n k (i : Int) = some r ∧ 1 ≤ r ∧ r ≤ most + 1 ∧ (r ≤ most → r = 1 + Q0.szs v.Items ∧ Q0.txts v.Items)
 | 0, _, _, _, h, _, _, _ => by omega
 | n + 1, k, i, h1, h2, hk1, hk2, hk3 => by
  simp only [Zn, Q9, Wm, Q7c, Qh]
  by_cases hi : i < v.Items.length
  ·rw [if_pos (by omega)]
   by_cases hkm : k ≤ most
   ·rw [if_pos hkm, Zs, La hi, Z1 (deep - 1) (by omega), Z1 (most - k) (by omega)];obtain ⟨r, r1, r2, r3, r4⟩ := hR v.Items[i] (most - k) (by omega) (by omega);simp only [Lb, r1];rw [Z1 (k + r) (by omega), Z1 ((i : Int) + 1) (by omega)]
    have := Qnz (N := N) hd hm hl hR n (k + r) (i + 1) (by omega) (by omega) (by omega) (by omega) (fun h => by
     obtain ⟨q1, q2⟩ := r4 (by omega);obtain ⟨q3, q4⟩ := hk3 hkm;rw [Ma hi, Q0.szs_app, Q0.txts_app];refine ⟨?_, q4, ?_⟩
     ·simp only [Q0.szs]; omega
     simp only [Q0.txts]; exact ⟨q2, trivial⟩)
    exact_mod_cast this
   rw [if_neg hkm];exact ⟨k, rfl, hk1, hk2, fun h => absurd h hkm⟩
  rw [if_neg (by omega)];refine ⟨k, rfl, hk1, hk2, fun h => ?_⟩;have := hk3 h
  rwa [Lw (by omega)] at this
theorem Qg7 : ∀ (N : Nat) (v : Q0) (deep most : Int), -1 ≤ deep → deep ≤ 6 → 0 ≤ most → most ≤ 40 → deep + 50 < N →
  ∃ r, Za N v deep most = some r ∧ 1 ≤ r ∧ r ≤ most + 1 ∧ (r ≤ most → r = v.sz ∧ v.txt)
 | 0, v, deep, most, h1, h2, h3, h4, h5 => by omega
 | N + 1, v, deep, most, h1, h2, h3, h4, h5 => by
  simp only [Za, Uz, Q9, Wm, Q9m, Qh, Z1 (most + 1) (show _ by omega)]
  by_cases e1 : deep < 0
  ·rw [if_pos e1]; exact ⟨_, rfl, by omega, by omega, fun h => by omega⟩
  rw [if_neg e1]
  by_cases e2 : (v.Items.length : Int) > most
  ·rw [if_pos e2]; exact ⟨_, rfl, by omega, by omega, fun h => by omega⟩
  rw [if_neg e2]
  by_cases e3 : (v.Text.length : Int) > 400
  ·rw [if_pos e3]; exact ⟨_, rfl, by omega, by omega, fun h => by omega⟩
  rw [if_neg e3];have := Qnz (N := N) (R := Za N) (v := v) (deep := deep) (most := most) ⟨by omega, h2⟩ ⟨h3, h4⟩ (by omega)
   (fun y m hm1 hm2 => Qg7 N y (deep - 1) m (by omega) (by omega) hm1 hm2 (by omega)) N 1 0 (by omega) (by omega) (by omega) (by omega) (fun _ => by simp [Q0.szs, Q0.txts])
  obtain ⟨r, r1, r2, r3, r4⟩ := this;refine ⟨r, r1, r2, r3, fun h => ?_⟩;obtain ⟨q1, q2⟩ := r4 h;have hs := v.sz_eq;rw [Q0.txt_eq];exact ⟨by omega, by omega, q2⟩
theorem Qr6 (N : Nat) (v : Q0) (h : 60 < N) : ∃ b, Wj N v = some b ∧ (b = true → v.sz ≤ 40 ∧ v.txt) := by
 obtain ⟨r, r1, r2, r3, r4⟩ := Qg7 N v 6 40 (by omega) (by omega) (by omega) (by omega) (by omega);refine ⟨Q3 .leq r 40, by simp [Wj, r1], fun h => ?_⟩;rw [Q7c] at h;obtain ⟨q1, q2⟩ := r4 h;exact ⟨by omega, q2⟩
end
end Go.Av
namespace Go.Av
noncomputable section
open Go.Proofs
def Gt (k : Int) : Int × Bool :=
 if k = 2 then (1, false) else if k = 3 then (8, false) else if k = 4 then (16, false)
 else if k = 5 ∨ k = 11 ∨ k = 13 ∨ k = 16 then (32, false) else if k = 6 ∨ k = 12 ∨ k = 14 then (64, false)
 else if k = 7 then (8, true) else if k = 8 then (16, true) else if k = 9 then (32, true) else if k = 10 ∨ k = 17 then (64, true) else (0, false)
theorem Qsl (N : Nat) (k : Int) : Gf N k = some (Gt k) := by
 by_cases h2 : k = 2
 ·subst h2; rfl
 by_cases h3 : k = 3
 ·subst h3; rfl
 by_cases h4 : k = 4
 ·subst h4; rfl
 by_cases h5 : k = 5
 ·subst h5; rfl
 by_cases h11 : k = 11
 ·subst h11; rfl
 by_cases h13 : k = 13
 ·subst h13; rfl
 by_cases h16 : k = 16
 ·subst h16; rfl
 by_cases h6 : k = 6
 ·subst h6; rfl
 by_cases h12 : k = 12
 ·subst h12; rfl
 by_cases h14 : k = 14
 ·subst h14; rfl
 by_cases h7 : k = 7
 ·subst h7; rfl
 by_cases h8 : k = 8
 ·subst h8; rfl
 by_cases h9 : k = 9
 ·subst h9; rfl
 by_cases h10 : k = 10
 ·subst h10; rfl
 by_cases h17 : k = 17
 ·subst h17; rfl
 unfold Gf Gt;simp [Q9, h2, h3, h4, h5, h11, h13, h16, h6, h12, h14, h7, h8, h9, h10, h17]
def Q33 (k : Int) : Bool := decide (k = 15 ∨ k = 18 ∨ k = 19 ∨ k = 20 ∨ k = 21)
theorem Qr0 (N : Nat) (k : Int) : Uu N k = some (Q33 k) := by
 unfold Uu Q33;simp only [Q9, J6]
 repeat' split
 all_goals simp_all
def Qfy (n : Int) : Bool := decide (n ≤ 1114111 ∧ ¬ (55296 ≤ n ∧ n ≤ 57343))
theorem Ql7 (N : Nat) (n : Int) (h0 : 0 ≤ n) : J1 N n = some (Qfy n) := by
 unfold J1 Yl Qfy;simp only [Q9, Q7c, Wm]
 by_cases h : n ≤ 1114111
 ·have hw : wrap .i32 n = n := by
   simp only [wrap, IntKind.bits, IntKind.signed];simp;omega
  rw [if_pos h, hw]
  repeat' split
  all_goals (simp; omega)
 rw [if_neg h];simp [h]
def s64 (n : Int) : Int := if n < 9223372036854775808 then n else n - 18446744073709551616
theorem Qvh (n : Int) (h0 : 0 ≤ n) (h1 : n < 18446744073709551616) : IntKind.i64.wrap n = s64 n := by
 unfold s64;split
 ·exact IntWalk.i64_in n (by omega)
 simp only [wrap, IntKind.bits, IntKind.signed];simp;omega
def Q1d (n bits : Int) (signed : Bool) : Bool := if signed then decide (-(2 ^ (bits.toNat - 1)) ≤ s64 n ∧ s64 n < 2 ^ (bits.toNat - 1)) else decide (n < 2 ^ bits.toNat)
theorem Qgx {m k : Nat} (h : m ≤ k) : (2 : Int) ^ m ≤ 2 ^ k := by
 have := Bz (n := 2) (by omega) h
 exact_mod_cast this
theorem two_pow_pos (m : Nat) : (1 : Int) ≤ 2 ^ m := by
 have := Nat.one_le_two_pow (n := m)
 exact_mod_cast this
theorem Qz5 (k : Int) (h0 : 0 ≤ k) (h1 : k ≤ 63) : IntKind.i64.wrap (-1 * 2 ^ min (IntKind.i64.wrap k).toNat IntKind.i64.bits) = -(2 ^ k.toNat) := by
 have e1 : IntKind.i64.wrap k = k := IntWalk.i64_in _ (by omega)
 have e2 : min k.toNat IntKind.i64.bits = k.toNat := by simp [IntKind.bits]; omega
 have h2 := Qgx (m := k.toNat) (k := 63) (by omega);have h3 := two_pow_pos k.toNat;rw [e1, e2, IntWalk.i64_in _ (by omega)];omega
theorem Qdq (N : Nat) (n bits : Int) (signed : Bool) (h0 : 0 ≤ n) (h1 : n < 18446744073709551616) (hb0 : 0 ≤ bits) (hb1 : bits ≤ 64) (hs : signed = true → 1 ≤ bits) :
  U2 N n bits signed = some (Q1d n bits signed) := by
 unfold U2;cases signed
 ·simp only [Q9, J6, Lf, if_false, decide_eq_true_eq]
  by_cases h : bits = 64
  ·rw [if_pos h];subst h;simp only [Q1d, Lf, if_false, Lc];exact (decide_eq_true (by simpa using h1)).symm
  rw [if_neg h, if_pos hb0];simp only [Q1d, Lf, if_false, Lc, Q3, Q5a]
  have e2 : min bits.toNat IntKind.u64.bits = bits.toNat := by simp [IntKind.bits]; omega
  rw [e2, Mq];simp only [beq_iff_eq, decide_eq_true_eq];have h3 := two_pow_pos bits.toNat;rw [Ns _ (by omega)];constructor
  ·intro h4;have := Int.lt_ediv_add_one_mul_self n (show (0 : Int) < 2 ^ bits.toNat by omega);rw [h4] at this;simpa using this
  intro h4;exact Int.ediv_eq_zero_of_lt h0 h4
 have hs := hs rfl;have e1 : IntKind.i64.wrap (bits - 1) = bits - 1 := IntWalk.i64_in _ (by omega);have e2 := Qz5 (bits - 1) (by omega) (by omega);have e3 := Qvh n h0 h1;have h2 := Qgx (m := (bits - 1).toNat) (k := 63) (by omega);have h3 := two_pow_pos (bits - 1).toNat
 have e4 : (bits - 1).toNat = bits.toNat - 1 := by omega
 rw [e1] at e2;simp only [Q9, Qfb, if_true, decide_eq_true_eq, Q41, e1, e2, e3];rw [if_pos (by omega), IntWalk.i64_in (-2 ^ (bits - 1).toNat + 1) (by omega), IntWalk.i64_in (0 - (-2 ^ (bits - 1).toNat + 1)) (by omega)];rw [e4] at h2 h3 ⊢;split
 ·rename_i h;simp only [Q1d, if_true, Lc, Q3, decide_eq_decide];omega
 rename_i h;simp only [Q1d, if_true, Lc];exact (decide_eq_false (by omega)).symm
end
end Go.Av
namespace Go.Av
noncomputable section
def Ql9 (s : List UInt8) : Nat := s.foldl (fun a b => a * 256 + b.toNat) 0
theorem Qeo (s : List UInt8) (b : UInt8) : Ql9 (s ++ [b]) = Ql9 s * 256 + b.toNat := by simp [Ql9]
def Q6w : Nat → Nat → List UInt8
 | _, 0 => []
 | n, w + 1 => Q6w (n / 256) w ++ [UInt8.ofNat (n % 256)]
theorem Jo : ∀ (w n : Nat), (Q6w n w).length = w
 | 0, _ => rfl
 | w + 1, n => by simp [Q6w, Jo w]
theorem Qd1 : ∀ (w n : Nat), Ql9 (Q6w n w) = n % 256 ^ w
 | 0, n => by simp [Q6w, Ql9, Nat.mod_one]
 | w + 1, n => by
  rw [Q6w, Qeo, Qd1 w, Cq, Bt (256 ^ w) 256, Nat.mod_mul]
  have : (UInt8.ofNat (n % 256)).toNat = n % 256 := by simp
  rw [this]; omega
theorem Qxx {α : Type} {P : List α → Prop} (h0 : P []) (h1 : ∀ s b, P s → P (s ++ [b])) (s : List α) : P s := by
 have h : ∀ t : List α, P t.reverse := by
  intro t
  induction t with
  | nil => exact h0
  | cons b t ih => rw [List.reverse_cons]; exact h1 _ _ ih
 have := h s.reverse
 rwa [List.reverse_reverse] at this
theorem Qv7 : ∀ (s : List UInt8), Ql9 s < 256 ^ s.length := by
 refine Qxx (by simp [Ql9]) (fun s b ih => ?_)
 ·rw [Qeo, Lt, Bv, Cq];have := b.toNat_lt;simp at this;omega
theorem Qrw : ∀ (s : List UInt8), Q6w (Ql9 s) s.length = s := by
 refine Qxx rfl (fun s b ih => ?_)
 ·rw [Qeo, Lt, Bv, Q6w];have hb := b.toNat_lt;simp at hb;rw [show (Ql9 s * 256 + b.toNat) / 256 = Ql9 s by omega, ih, show (Ql9 s * 256 + b.toNat) % 256 = b.toNat by omega];simp
theorem Qoy : ∀ (w n : Nat), Q6w (n % 256 ^ w) w = Q6w n w
 | 0, n => rfl
 | w + 1, n => by
  have h := Qoy w (n / 256);rw [Q6w, Q6w, Cq, Bt (256 ^ w) 256, Nat.mod_mul];rw [show (n % 256 + 256 * (n / 256 % 256 ^ w)) / 256 = n / 256 % 256 ^ w by omega, h, show (n % 256 + 256 * (n / 256 % 256 ^ w)) % 256 = n % 256 by omega]
end
end Go.Av
namespace Go.Av
noncomputable section
open Go.Proofs
def inB (s : List UInt8) (i lo hi : Nat) : Bool := match s[i]? with
 | some b => decide (lo ≤ b.toNat ∧ b.toNat ≤ hi)
 | none => false
def cpN (s : List UInt8) : Nat := match s with
 | [] => 0
 | c :: _ => if c.toNat < 128 then 1
  else if 194 ≤ c.toNat ∧ c.toNat ≤ 223 then (if inB s 1 128 191 then 2 else 0)
  else if c.toNat = 224 then (if inB s 1 160 191 && inB s 2 128 191 then 3 else 0)
  else if c.toNat = 237 then (if inB s 1 128 159 && inB s 2 128 191 then 3 else 0)
  else if 225 ≤ c.toNat ∧ c.toNat ≤ 239 then (if inB s 1 128 191 && inB s 2 128 191 then 3 else 0)
  else if c.toNat = 240 then (if inB s 1 144 191 && inB s 2 128 191 && inB s 3 128 191 then 4 else 0)
  else if 241 ≤ c.toNat ∧ c.toNat ≤ 243 then (if inB s 1 128 191 && inB s 2 128 191 && inB s 3 128 191 then 4 else 0)
  else if c.toNat = 244 then (if inB s 1 128 143 && inB s 2 128 191 && inB s 3 128 191 then 4 else 0)
  else 0
def Q9y : Nat → List UInt8 → Bool
 | 0, s => s.isEmpty
 | n + 1, s => if s.isEmpty then true else match cpN s with
  | 0 => false
  | k + 1 => Q9y n (s.drop (k + 1))
def Um (s : List UInt8) : Bool := Q9y s.length s
theorem Ql4 : ∀ (n m : Nat) (s : List UInt8), s.length ≤ n → s.length ≤ m → Q9y n s = Q9y m s
 | 0, 0, s, _, _ => rfl
 | 0, m + 1, s, h, _ => by
  have : s = [] := Dk.1 (by omega);subst this; simp [Q9y]
 | n + 1, 0, s, _, h => by
  have : s = [] := Dk.1 (by omega);subst this; simp [Q9y]
 | n + 1, m + 1, s, h1, h2 => by
  simp only [Q9y]
  cases s with
  | nil => rfl
  | cons c r =>
   simp only [List.isEmpty_cons, Lf, if_false];split
   ·rfl
   exact Ql4 n m _ (by simp at h1 ⊢; omega) (by simp at h2 ⊢; omega)
theorem Qt2 : Um [] = true := rfl
theorem Q72 (s : List UInt8) (hne : s ≠ []) (h : cpN s = 0) : Um s = false := by
 cases s with
 | nil => exact absurd rfl hne
 | cons c r => unfold Um; simp only [Lz, Q9y, h]; rfl
theorem Q5m (s : List UInt8) (k : Nat) (h : cpN s = k + 1) : Um s = Um (s.drop (k + 1)) := by
 cases s with
 | nil => simp [cpN] at h
 | cons c r =>
  unfold Um;simp only [Lz, Q9y, h, List.isEmpty_cons, Lf, if_false];exact Ql4 _ _ _ (by simp) (by simp)
theorem Q91 : ∀ (k : Nat) (s : List UInt8), (∀ b ∈ s.take k, b < 128) → Um s = Um (s.drop k)
 | 0, s, _ => by simp
 | k + 1, [], _ => by simp
 | k + 1, c :: r, h => by
  have hc : c < 128 := h c (by simp)
  have h1 : cpN (c :: r) = 1 := by simp only [cpN]; rw [if_pos (by exact hc)]
  rw [Q5m (c :: r) 0 h1];simpa using Q91 k r (fun b hb => h b (by simp [hb]))
def Q6t (s : List UInt8) : Bool := s.all fun b => decide (b.toNat < 128)
def Q7b (k n : Int) : Bool := Q1d n (Gt k).1 (Gt k).2 && (k != 16 || Qfy n)
def Qfz (k : Int) (t : List UInt8) : Int := if k = 20 then (if Um t then 0 else 6) else if k = 21 then (if Q6t t then 0 else 6) else 0
def Vq (v : Q0) : Int :=
 if v.Kind < 1 ∨ 21 < v.Kind then 8
 else if Q7b v.Kind v.N' = false ∨ v.Items ≠ [] then 2
 else if Q33 v.Kind = false then (if v.Text ≠ [] then 2 else 0)
 else if (v.Kind = 15 ∨ v.Kind = 18) ∧ v.Text.length ≠ 16 then 2
 else if 1048576 < v.Text.length then 4 else Qfz v.Kind v.Text
def Q4w (c : Qt) (v : Q0) : Bool :=
 if c.Code = 65 then decide (v.N' = 1) else if c.Sized then decide (c.Width = 4 ∨ v.Text.length ≤ 255)
 else if c.Width = 0 then decide (v.N' = 0) else if c.Width = 1 then Q1d v.N' 8 (Gt c.Kind).2 else true
def Q38 (code : Int) (v : Q0) : Bool := ofB code && decide ((ofS code).Kind = v.Kind) && decide (Vq v = 0) && Q4w (ofS code) v
def Q30 (c : Qt) (v : Q0) : List UInt8 :=
 if c.Sized then Q6w v.Text.length c.Width.toNat ++ v.Text else if c.Width = 16 then v.Text else Q6w v.N'.toNat c.Width.toNat
def Qy9 (code : Int) (v : Q0) : List UInt8 × Int :=
 if Vq v ≠ 0 then ([], Vq v) else if Q38 code v = false then ([], 2) else (Q30 (ofS code) v, 0)
def Q7d (c : Qt) (n : Int) : Int := if (Gt c.Kind).2 = true ∧ 0 < c.Width ∧ 2 ^ (8 * c.Width.toNat - 1) ≤ n then n + (18446744073709551616 - 2 ^ (8 * c.Width.toNat)) else n
def Qu0 : Q0 := ⟨0, 0, [], []⟩
def Qv9 (v : Q0) (n : Int) : Q0 × Int × Int := if Vq v = 0 then (v, n, 0) else (Qu0, 0, if Vq v = 2 then 5 else Vq v)
def Z23 (code : Int) (s : List UInt8) : Q0 × Int × Int :=
 if ofB code = false ∨ (ofS code).Items = true then (Qu0, 0, 8)
 else if (s.length : Int) < (ofS code).Width then (Qu0, 0, 3)
 else if (ofS code).Sized = true then
  if s.length - (ofS code).Width.toNat < Ql9 (s.take (ofS code).Width.toNat) then (Qu0, 0, 3)
  else Qv9 ⟨(ofS code).Kind, 0, (s.drop (ofS code).Width.toNat).take (Ql9 (s.take (ofS code).Width.toNat)), []⟩ ((ofS code).Width + Ql9 (s.take (ofS code).Width.toNat))
 else if (ofS code).Width = 16 then Qv9 ⟨(ofS code).Kind, 0, s.take 16, []⟩ 16
 else if (ofS code).Code = 65 then Qv9 ⟨(ofS code).Kind, 1, [], []⟩ 0
 else Qv9 ⟨(ofS code).Kind, Q7d (ofS code) (Ql9 (s.take (ofS code).Width.toNat)), [], []⟩ (ofS code).Width
end
end Go.Av
namespace Go.Av
noncomputable section
open Go.Proofs
set_option maxRecDepth 100000
def Jz : List UInt8 → Nat
 | [] => 0
 | b :: r => b.toNat + 256 * Jz r
theorem Qpr : ∀ (s : List UInt8) (k : Nat), s.length ≤ k → Jz s < 256 ^ k
 | [], k, _ => Nat.pow_pos (by omega)
 | b :: r, 0, h => by simp at h
 | b :: r, k + 1, h => by
  have h1 := Qpr r k (by simpa using h);have h2 : b.toNat < 256 := b.toNat_lt;rw [Jz, Cq];omega
theorem Qf7 (a b : Nat) (n m : Nat) (ha : a < 2 ^ n) (hb : b < 2 ^ m) (hn : n + m ≤ 64) :
  IntKind.u64.wrap (((BitVec.ofInt IntKind.u64.bits (a : Int) ||| BitVec.ofInt IntKind.u64.bits (IntKind.u64.wrap ((b : Int) * 2 ^ min n IntKind.u64.bits))).toNat : Nat) : Int) = ((a + 2 ^ n * b : Nat) : Int) := by
 have h64 : IntKind.u64.bits = 64 := rfl
 have hw : ∀ z : Int, IntKind.u64.wrap z = z % 18446744073709551616 := fun z => by simp [wrap, IntKind.bits, IntKind.signed]
 have hnn : min n 64 = n := by omega
 have hp : 2 ^ n * b < 2 ^ 64 := by
  calc 2 ^ n * b < 2 ^ n * 2 ^ m := Nat.mul_lt_mul_of_pos_left hb (Nat.two_pow_pos n)
   _ = 2 ^ (n + m) := (Nat.pow_add 2 n m).symm
   _ ≤ 2 ^ 64 := Bz (by omega) hn
 have ha64 : a < 2 ^ 64 := Nh ha (Bz (by omega) (by omega))
 have e1 : ((b : Int) * 2 ^ n) = ((2 ^ n * b : Nat) : Int) := by push_cast; exact Int.mul_comm _ _
 rw [h64, hnn, e1, hw, hw]
 have e2 : ((2 ^ n * b : Nat) : Int) % 18446744073709551616 = ((2 ^ n * b : Nat) : Int) := by
  rw [Db (by omega) (by have : (2 : Nat) ^ 64 = 18446744073709551616 := rfl; omega)]
 rw [e2, BitVec.ofInt_natCast, BitVec.ofInt_natCast, BitVec.toNat_or, BitVec.toNat_ofNat, BitVec.toNat_ofNat, Nl ha64, Nl hp]
 have e3 : a ||| 2 ^ n * b = a + 2 ^ n * b := by
  have := Nat.shiftLeft_add_eq_or_of_lt ha b;rw [Nat.shiftLeft_eq, Bt] at this;rw [Nat.or_comm, ← this, De]
 rw [e3]
 have e4 : a + 2 ^ n * b < 18446744073709551616 := by
  have hb2 : b + 1 ≤ 2 ^ m := hb;have : 2 ^ n * (b + 1) ≤ 2 ^ n * 2 ^ m := Nat.mul_le_mul_left _ hb2;rw [← Nat.pow_add] at this;have h5 : 2 ^ (n + m) ≤ 2 ^ 64 := Bz (by omega) hn;rw [Nat.mul_add, Nat.mul_one] at this;have : (2 : Nat) ^ 64 = 18446744073709551616 := rfl;omega
 rw [Db (by omega) (by omega)]
theorem Qvn (b : UInt8) : IntKind.u64.wrap ((b.toNat : Nat) : Int) = ((b.toNat : Nat) : Int) := by
 have := b.toNat_lt;simp only [wrap, IntKind.bits, IntKind.signed];simp;omega
theorem Z1r (N : Nat) (b0 b1 b2 b3 b4 b5 b6 b7 : UInt8) (r : List UInt8) : Qn N (b0 :: b1 :: b2 :: b3 :: b4 :: b5 :: b6 :: b7 :: r) = some (Jz [b0, b1, b2, b3, b4, b5, b6, b7] : Nat) := by
 have l0 := b0.toNat_lt; have l1 := b1.toNat_lt; have l2 := b2.toNat_lt; have l3 := b3.toNat_lt;have l4 := b4.toNat_lt; have l5 := b5.toNat_lt; have l6 := b6.toNat_lt; have l7 := b7.toNat_lt;show some _ = some _;simp only [orI, Q41, Qvn];have t8 : Int.toNat 8 = 8 := rfl;have t16 : Int.toNat 16 = 16 := rfl;have t24 : Int.toNat 24 = 24 := rfl;have t32 : Int.toNat 32 = 32 := rfl;have t40 : Int.toNat 40 = 40 := rfl;have t48 : Int.toNat 48 = 48 := rfl;have t56 : Int.toNat 56 = 56 := rfl;rw [t8, t16, t24, t32, t40, t48, t56];rw [Qf7 b0.toNat b1.toNat 8 8 l0 l1 (by omega)];rw [Qf7 _ b2.toNat 16 8 (by omega) l2 (by omega)];rw [Qf7 _ b3.toNat 24 8 (by omega) l3 (by omega)];rw [Qf7 _ b4.toNat 32 8 (by omega) l4 (by omega)];rw [Qf7 _ b5.toNat 40 8 (by omega) l5 (by omega)];rw [Qf7 _ b6.toNat 48 8 (by omega) l6 (by omega)];rw [Qf7 _ b7.toNat 56 8 (by omega) l7 (by omega)];simp only [Jz, Lc];omega
theorem Q3w (N : Nat) (s : List UInt8) (h : 8 ≤ s.length) : Qn N s = some ((Jz (s.take 8) : Nat) : Int) := by
 match s, h with
 | b0 :: b1 :: b2 :: b3 :: b4 :: b5 :: b6 :: b7 :: r, _ => exact Z1r N b0 b1 b2 b3 b4 b5 b6 b7 r
theorem Qku : ∀ (s : List UInt8) (m : Nat), m = Jz (List.replicate s.length 128) → (Jz s &&& m = 0 ↔ ∀ b ∈ s, b < 128)
 | [], m, h => by subst h; simp [Jz]
 | b :: r, m, h => by
  have ih := Qku r _ rfl
  have hb0 : ∀ n, n < 256 → (n &&& 128 = 0 ↔ n < 128) := by decide
  have hb : ∀ c : UInt8, c.toNat &&& 128 = 0 ↔ c < 128 := fun c => (hb0 c.toNat c.toNat_lt).trans Iff.rfl;rw [Lz, Bj, Jz] at h;generalize Jz (List.replicate r.length 128) = q at h ih;have e1 : (128 : UInt8).toNat = 128 := rfl;rw [e1] at h
  have key : ∀ z : Nat, z = 0 ↔ z % 2 ^ 8 = 0 ∧ z / 2 ^ 8 = 0 := fun z => by omega
  have hlt := b.toNat_lt;rw [Jz, h, key, Nat.and_mod_two_pow, Nat.and_div_two_pow]
  have d1 : (b.toNat + 256 * Jz r) % 2 ^ 8 = b.toNat := by omega
  have d2 : (128 + 256 * q) % 2 ^ 8 = 128 := by omega
  have d3 : (b.toNat + 256 * Jz r) / 2 ^ 8 = Jz r := by omega
  have d4 : (128 + 256 * q) / 2 ^ 8 = q := by omega
  rw [d1, d2, d3, d4, hb, ih];simp
theorem Q49 (n : Nat) (h : n < 18446744073709551616) : IntKind.u64.wrap (n : Int) = n := by
 simp only [wrap, IntKind.bits, IntKind.signed]
 simp; omega
theorem Q68 (a b : Nat) (ha : a < 18446744073709551616) (hb : b < 18446744073709551616) : Q2n .u64 (a : Int) (b : Int) = ((a &&& b : Nat) : Int) := by
 have hl : a &&& b ≤ a := Nat.and_le_left;have h64 : IntKind.u64.bits = 64 := rfl;have p64 : (2 : Nat) ^ 64 = 18446744073709551616 := rfl;simp only [Q2n];rw [h64, BitVec.ofInt_natCast, BitVec.ofInt_natCast, BitVec.toNat_and, BitVec.toNat_ofNat, BitVec.toNat_ofNat, Nl (by omega), Nl (by omega), Q49 _ (by omega)]
theorem Qi9 (a b : Nat) (ha : a < 18446744073709551616) (hb : b < 18446744073709551616) : orI .u64 (a : Int) (b : Int) = ((a ||| b : Nat) : Int) ∧ (a ||| b) < 18446744073709551616 := by
 have h64 : IntKind.u64.bits = 64 := rfl;have p64 : (2 : Nat) ^ 64 = 18446744073709551616 := rfl
 have hl : a ||| b < 2 ^ 64 := Nat.or_lt_two_pow (by omega) (by omega)
 simp only [orI];rw [h64, BitVec.ofInt_natCast, BitVec.ofInt_natCast, BitVec.toNat_or, BitVec.toNat_ofNat, BitVec.toNat_ofNat, Nl (by omega), Nl (by omega), Q49 _ (by omega)];exact ⟨rfl, by omega⟩
theorem Qi2 (a b m : Nat) : (a ||| b) &&& m = 0 ↔ a &&& m = 0 ∧ b &&& m = 0 := by
 rw [Nat.and_or_distrib_right];constructor
 ·intro h
  have h1 : a &&& m ≤ (a &&& m) ||| (b &&& m) := Nat.left_le_or
  have h2 : b &&& m ≤ (a &&& m) ||| (b &&& m) := Nat.right_le_or
  omega
 rintro ⟨h1, h2⟩; rw [h1, h2]; rfl
theorem Q9h (s : List UInt8) : Jz (s.take 8) < 18446744073709551616 := by
 have := Qpr (s.take 8) 8 (by simp; omega);simpa using this
def M8 : Nat := 9259542123273814144
theorem Z55 (s : List UInt8) (h : 8 ≤ s.length) : Jz (s.take 8) &&& M8 = 0 ↔ ∀ b ∈ s.take 8, b < 128 := Qku _ _ (by rw [Mc, Bm h]; rfl)
theorem Z0o (s : List UInt8) (h : 8 ≤ s.length) (hm : Jz (s.take 8) &&& M8 = 0) : Um s = Um (s.drop 8) := Q91 8 s ((Z55 s h).1 hm)
theorem Z4g (s : List UInt8) : (Q2n .u64 ((Jz (s.take 8) : Nat) : Int) 9259542123273814144 = 0) = (Jz (s.take 8) &&& M8 = 0) := by
 have h1 := Q9h s;rw [show (9259542123273814144 : Int) = ((M8 : Nat) : Int) from rfl, Q68 _ _ h1 (by decide)];apply propext; omega
theorem Z52 (s t : List UInt8) : (Q2n .u64 (orI .u64 ((Jz (s.take 8) : Nat) : Int) ((Jz (t.take 8) : Nat) : Int)) 9259542123273814144 = 0) = (Jz (s.take 8) &&& M8 = 0 ∧ Jz (t.take 8) &&& M8 = 0) := by
 obtain ⟨h1, h2⟩ := Qi9 _ _ (Q9h s) (Q9h t);rw [h1, show (9259542123273814144 : Int) = ((M8 : Nat) : Int) from rfl, Q68 _ _ h2 (by decide)];rw [← Qi2];apply propext; omega
theorem Z4t (s t u v : List UInt8) : (Q2n .u64 (orI .u64 (orI .u64 ((Jz (s.take 8) : Nat) : Int) ((Jz (t.take 8) : Nat) : Int)) (orI .u64 ((Jz (u.take 8) : Nat) : Int) ((Jz (v.take 8) : Nat) : Int))) 9259542123273814144 = 0) =
  (Jz (s.take 8) &&& M8 = 0 ∧ Jz (t.take 8) &&& M8 = 0 ∧ Jz (u.take 8) &&& M8 = 0 ∧ Jz (v.take 8) &&& M8 = 0) := by
 obtain ⟨h1, h2⟩ := Qi9 _ _ (Q9h s) (Q9h t);obtain ⟨h3, h4⟩ := Qi9 _ _ (Q9h u) (Q9h v);obtain ⟨h5, h6⟩ := Qi9 _ _ h2 h4;rw [h1, h3, h5, show (9259542123273814144 : Int) = ((M8 : Nat) : Int) from rfl, Q68 _ _ h6 (by decide)]
 rw [show (Jz (s.take 8) &&& M8 = 0 ∧ Jz (t.take 8) &&& M8 = 0 ∧ Jz (u.take 8) &&& M8 = 0 ∧ Jz (v.take 8) &&& M8 = 0) = ((Jz (s.take 8) ||| Jz (t.take 8) ||| (Jz (u.take 8) ||| Jz (v.take 8))) &&& M8 = 0) by
  rw [Qi2, Qi2, Qi2]; apply propext; simp only [and_assoc]]
 apply propext; omega
theorem Z2r (N : Nat) (k0 : List UInt8 → Option Bool) : ∀ (n : Nat) (s : List UInt8), s.length < n → (∀ t, t.length ≤ s.length → k0 t = some (Um t)) → Zc N k0 n s = some (Um s)
 | 0, s, h, _ => by omega
 | n + 1, s, h, hk => by
  simp only [Zc, Q9, Q9m, J6, By, Mu, Le, Lk, and_true]
  by_cases hl : (s.length : Int) > 32
  ·rw [if_pos hl, Q3w N s (by omega)];simp only [Lb];rw [if_pos (by omega), Q3w N _ (by rw [Mi]; omega)];simp only [Lb];rw [if_pos (by omega), Q3w N _ (by rw [Mi]; omega)];simp only [Lb];rw [if_pos (by omega), Q3w N _ (by rw [Mi]; omega)];simp only [Lb, Z4t];split
   ·rename_i hm;obtain ⟨m1, m2, m3, m4⟩ := hm;rw [if_pos (by omega), Z2r N k0 n (s.drop 32) (by rw [Mi]; omega) (fun t ht => hk t (by rw [Mi] at ht; omega))];have e1 := Z0o s (by omega) m1;have e2 := Z0o (s.drop 8) (by rw [Mi]; omega) m2;rw [Nd] at e2;have e3 := Z0o (s.drop 16) (by rw [Mi]; omega) m3;rw [Nd] at e3;have e4 := Z0o (s.drop 24) (by rw [Mi]; omega) m4;rw [Nd] at e4;rw [e1, e2, e3, e4]
   exact hk s (Lk _)
  rw [if_neg hl]; exact hk s (Lk _)
def Qje (n : Nat) : Nat := Go.Pinned.utf8FirstZ.getD n 0
theorem Z07 (n : Nat) (h : n < 256) : idx gtab0 (n : Int) = some (Qje n : Int) := by
 have hl : Go.Pinned.utf8FirstZ.length = 256 := by rfl
 rw [Zs, gtab0, Ll, Qje, Lh, La (by omega)];rfl
def Zb3 (n : Nat) : Bool := (Qje n == 241 && (decide (n < 194) || decide (244 < n))) || (Qje n == 2 && decide (194 ≤ n) && decide (n ≤ 223)) || (Qje n == 19 && n == 224) || (Qje n == 3 && decide (225 ≤ n) && decide (n ≤ 239) && n != 237) || (Qje n == 35 && n == 237) ||
  (Qje n == 52 && n == 240) || (Qje n == 4 && decide (241 ≤ n) && decide (n ≤ 243)) || (Qje n == 68 && n == 244)
set_option maxRecDepth 100000 in
theorem Z1x : ((List.range 256).all fun n => decide (n < 128) || Zb3 n) = true := by decide +kernel
theorem cls (n : Nat) (h : n < 256) (h2 : 128 ≤ n) : (Qje n = 241 ∧ (n < 194 ∨ 244 < n)) ∨ (Qje n = 2 ∧ 194 ≤ n ∧ n ≤ 223) ∨ (Qje n = 19 ∧ n = 224) ∨ (Qje n = 3 ∧ 225 ≤ n ∧ n ≤ 239 ∧ n ≠ 237) ∨ (Qje n = 35 ∧ n = 237) ∨
  (Qje n = 52 ∧ n = 240) ∨ (Qje n = 4 ∧ 241 ≤ n ∧ n ≤ 243) ∨ (Qje n = 68 ∧ n = 244) := by
 have := Lq.1 Z1x n (by simpa using h);simp only [Mx, decide_eq_true_eq] at this
 rcases this with h3 | h3
 ·omega
 simp only [Zb3, Mx, Le, beq_iff_eq, decide_eq_true_eq, bne_iff_ne, ne_eq] at h3
 rcases h3 with ((((((h | h) | h) | h) | h) | h) | h) | h
 ·exact .inl h
 ·exact .inr (.inl ⟨h.1.1, h.1.2, h.2⟩)
 ·exact .inr (.inr (.inl h))
 ·exact .inr (.inr (.inr (.inl ⟨h.1.1.1, h.1.1.2, h.1.2, h.2⟩)))
 ·exact .inr (.inr (.inr (.inr (.inl h))))
 ·exact .inr (.inr (.inr (.inr (.inr (.inl h)))))
 ·exact .inr (.inr (.inr (.inr (.inr (.inr (.inl ⟨h.1.1, h.1.2, h.2⟩))))))
 exact .inr (.inr (.inr (.inr (.inr (.inr (.inr h))))))
theorem Z2c (N n : Nat) (c : UInt8) (r : List UInt8) (hc : c.toNat < 128) (_hn : r.length < n) (hN : r.length < N) (ih : ∀ t, t.length ≤ r.length → Q6 N n t = some (Um t)) :
  Q6 N (n + 1) (c :: r) = some (Um (c :: r)) := by
 have hstep : Um (c :: r) = Um r := Q91 1 (c :: r) (fun b hb => by simp at hb; subst hb; exact hc);rw [hstep];simp only [Q6, Q9, Q9m, J6, Wm, By, Mu, Le, Lk, and_true];rw [if_pos (by simp only [Lz]; omega), show idx (c :: r) 0 = some c from rfl];simp only [Lb];rw [if_pos (by omega), if_pos (by simp)];simp only [List.drop_one, List.tail_cons]
 by_cases h8 : (r.length : Int) > 8
 ·rw [if_pos h8, Q3w N r (by omega)];simp only [Lb, Z4g];split
  ·rename_i hm;rw [Z0o r (by omega) hm, if_pos (by omega)];split
   ·rename_i h16;rw [Q3w N _ (by omega)];simp only [Lb];rw [if_pos (by omega), Q3w N _ (by simp only [Mi] at h16 ⊢; omega)];simp only [Lb, Z52];split
    ·rename_i hm2;rw [if_pos (by omega), Z2r N _ N _ (by simp only [Mi]; omega) (fun t ht => ih t (by simp only [Mi] at ht; omega))];rw [Z0o (r.drop 8) (by simp only [Mi] at h16 ⊢; omega) hm2.1, Z0o ((r.drop 8).drop 8) (by simp only [Mi] at h16 ⊢; omega) hm2.2, Nd (l := r.drop 8)]
    exact ih _ (by simp only [Mi]; omega)
   exact ih _ (by simp only [Mi]; omega)
  exact ih _ (Lk _)
 rw [if_neg h8]; exact ih _ (Lk _)
end
end Go.Av
namespace Go.Av
noncomputable section
open Go.Proofs
set_option maxRecDepth 100000
theorem Qq5 {s : List UInt8} {i lo hi : Nat} {b : UInt8} (h : s[i]? = some b) (h1 : lo ≤ b.toNat) (h2 : b.toNat ≤ hi) : inB s i lo hi = true := by simp [inB, h, h1, h2]
theorem Qcp {s : List UInt8} {i lo hi : Nat} {b : UInt8} (h : s[i]? = some b) (h1 : ¬ (lo ≤ b.toNat ∧ b.toNat ≤ hi)) : inB s i lo hi = false := by simp only [inB, h, decide_eq_false h1]
theorem Qq3 {s : List UInt8} {i lo hi : Nat} (h : s[i]? = none) : inB s i lo hi = false := by simp [inB, h]
theorem Z1q {X : List UInt8 → Option Bool} (c : UInt8) (r : List UInt8) (lo hi : Int) (lo' hi' : Nat) (e1 : lo = lo') (e2 : hi = hi') (hX : ∀ t, t.length ≤ r.length → X t = some (Um t))
  (hcp : cpN (c :: r) = if inB (c :: r) 1 lo' hi' then 2 else 0) :
  (if ((c :: r).length : Int) < 2 then some false else (idx (c :: r) 1).bind fun b => if (b.toNat : Int) < lo then some false else (idx (c :: r) 1).bind fun b2 => if hi < (b2.toNat : Int) then some false else
   if 2 ≤ (c :: r).length then X ((c :: r).drop 2) else none) = some (Um (c :: r)) := by
 subst e1 e2
 have bad : cpN (c :: r) = 0 → some false = some (Um (c :: r)) := fun h => by rw [Q72 _ (by simp) h]
 match r, hX, hcp, bad with
 | [], hX, hcp, bad =>
  rw [if_pos (by simp)];exact bad (by rw [hcp, Qq3 (by simp)]; rfl)
 | d :: t, hX, hcp, bad =>
  rw [if_neg (by simp only [Lz]; omega), show idx (c :: d :: t) 1 = some d from rfl];simp only [Lb]
  by_cases h1 : (d.toNat : Int) < lo'
  ·rw [if_pos h1]; exact bad (by rw [hcp, Qcp (b := d) rfl (by omega)]; rfl)
  rw [if_neg h1]
  by_cases h2 : (hi' : Int) < d.toNat
  ·rw [if_pos h2]; exact bad (by rw [hcp, Qcp (b := d) rfl (by omega)]; rfl)
  rw [if_neg h2, if_pos (by simp)]
  have hc : cpN (c :: d :: t) = 2 := by rw [hcp, Qq5 (b := d) rfl (by omega) (by omega)]; rfl
  rw [Q5m _ 1 hc];exact hX _ (by simp)
theorem Qn2 {X : List UInt8 → Option Bool} (c : UInt8) (r : List UInt8) (lo hi : Int) (lo' hi' : Nat) (e1 : lo = lo') (e2 : hi = hi') (hX : ∀ t, t.length ≤ r.length → X t = some (Um t))
  (hcp : cpN (c :: r) = if inB (c :: r) 1 lo' hi' && inB (c :: r) 2 128 191 then 3 else 0) :
  (if ((c :: r).length : Int) < 3 then some false else (idx (c :: r) 1).bind fun b => if (b.toNat : Int) < lo then some false else (idx (c :: r) 1).bind fun b2 => if hi < (b2.toNat : Int) then some false else
   (idx (c :: r) 2).bind fun b3 => if (b3.toNat : Int) < 128 then some false else (idx (c :: r) 2).bind fun b4 => if 191 < (b4.toNat : Int) then some false else
   if 3 ≤ (c :: r).length then X ((c :: r).drop 3) else none) = some (Um (c :: r)) := by
 subst e1 e2
 have bad : cpN (c :: r) = 0 → some false = some (Um (c :: r)) := fun h => by rw [Q72 _ (by simp) h]
 match r, hX, hcp, bad with
 | [], hX, hcp, bad =>
  rw [if_pos (by simp)];exact bad (by rw [hcp, Qq3 (by simp)]; rfl)
 | [d], hX, hcp, bad =>
  rw [if_pos (by simp)];exact bad (by rw [hcp, Qq3 (i := 2) (by simp)]; simp)
 | d :: e :: t, hX, hcp, bad =>
  rw [if_neg (by simp only [Lz]; omega), show idx (c :: d :: e :: t) 1 = some d from rfl, show idx (c :: d :: e :: t) 2 = some e from rfl];simp only [Lb]
  by_cases h1 : (d.toNat : Int) < lo'
  ·rw [if_pos h1]; exact bad (by rw [hcp, Qcp (b := d) (i := 1) rfl (by omega)]; rfl)
  rw [if_neg h1]
  by_cases h2 : (hi' : Int) < d.toNat
  ·rw [if_pos h2]; exact bad (by rw [hcp, Qcp (b := d) (i := 1) rfl (by omega)]; rfl)
  rw [if_neg h2]
  by_cases h3 : (e.toNat : Int) < 128
  ·rw [if_pos h3]; exact bad (by rw [hcp, Qcp (b := e) (i := 2) rfl (by omega)]; simp)
  rw [if_neg h3]
  by_cases h4 : (191 : Int) < e.toNat
  ·rw [if_pos h4]; exact bad (by rw [hcp, Qcp (b := e) (i := 2) rfl (by omega)]; simp)
  rw [if_neg h4, if_pos (by simp)]
  have hc : cpN (c :: d :: e :: t) = 3 := by rw [hcp, Qq5 (b := d) (i := 1) rfl (by omega) (by omega), Qq5 (b := e) (i := 2) rfl (by omega) (by omega)]; rfl
  rw [Q5m _ 2 hc];exact hX _ (by simp; omega)
theorem Qmk {X : List UInt8 → Option Bool} (c : UInt8) (r : List UInt8) (lo hi : Int) (lo' hi' : Nat) (e1 : lo = lo') (e2 : hi = hi') (hX : ∀ t, t.length ≤ r.length → X t = some (Um t))
  (hcp : cpN (c :: r) = if inB (c :: r) 1 lo' hi' && inB (c :: r) 2 128 191 && inB (c :: r) 3 128 191 then 4 else 0) :
  (if ((c :: r).length : Int) < 4 then some false else (idx (c :: r) 1).bind fun b => if (b.toNat : Int) < lo then some false else (idx (c :: r) 1).bind fun b2 => if hi < (b2.toNat : Int) then some false else
   (idx (c :: r) 2).bind fun b3 => if (b3.toNat : Int) < 128 then some false else (idx (c :: r) 2).bind fun b4 => if 191 < (b4.toNat : Int) then some false else
   (idx (c :: r) 3).bind fun b5 => if (b5.toNat : Int) < 128 then some false else (idx (c :: r) 3).bind fun b6 => if 191 < (b6.toNat : Int) then some false else
   if 4 ≤ (c :: r).length then X ((c :: r).drop 4) else none) = some (Um (c :: r)) := by
 subst e1 e2
 have bad : cpN (c :: r) = 0 → some false = some (Um (c :: r)) := fun h => by rw [Q72 _ (by simp) h]
 match r, hX, hcp, bad with
 | [], hX, hcp, bad =>
  rw [if_pos (by simp)];exact bad (by rw [hcp, Qq3 (by simp)]; rfl)
 | [d], hX, hcp, bad =>
  rw [if_pos (by simp)];exact bad (by rw [hcp, Qq3 (i := 2) (by simp)]; simp)
 | [d, e], hX, hcp, bad =>
  rw [if_pos (by simp)];exact bad (by rw [hcp, Qq3 (i := 3) (by simp)]; simp)
 | d :: e :: f :: t, hX, hcp, bad =>
  rw [if_neg (by simp only [Lz]; omega), show idx (c :: d :: e :: f :: t) 1 = some d from rfl, show idx (c :: d :: e :: f :: t) 2 = some e from rfl, show idx (c :: d :: e :: f :: t) 3 = some f from rfl];simp only [Lb]
  by_cases h1 : (d.toNat : Int) < lo'
  ·rw [if_pos h1]; exact bad (by rw [hcp, Qcp (b := d) (i := 1) rfl (by omega)]; rfl)
  rw [if_neg h1]
  by_cases h2 : (hi' : Int) < d.toNat
  ·rw [if_pos h2]; exact bad (by rw [hcp, Qcp (b := d) (i := 1) rfl (by omega)]; rfl)
  rw [if_neg h2]
  by_cases h3 : (e.toNat : Int) < 128
  ·rw [if_pos h3]; exact bad (by rw [hcp, Qcp (b := e) (i := 2) rfl (by omega)]; simp)
  rw [if_neg h3]
  by_cases h4 : (191 : Int) < e.toNat
  ·rw [if_pos h4]; exact bad (by rw [hcp, Qcp (b := e) (i := 2) rfl (by omega)]; simp)
  rw [if_neg h4]
  by_cases h5 : (f.toNat : Int) < 128
  ·rw [if_pos h5]; exact bad (by rw [hcp, Qcp (b := f) (i := 3) rfl (by omega)]; simp)
  rw [if_neg h5]
  by_cases h6 : (191 : Int) < f.toNat
  ·rw [if_pos h6]; exact bad (by rw [hcp, Qcp (b := f) (i := 3) rfl (by omega)]; simp)
  rw [if_neg h6, if_pos (by simp)]
  have hc : cpN (c :: d :: e :: f :: t) = 4 := by rw [hcp, Qq5 (b := d) (i := 1) rfl (by omega) (by omega), Qq5 (b := e) (i := 2) rfl (by omega) (by omega), Qq5 (b := f) (i := 3) rfl (by omega) (by omega)]; rfl
  rw [Q5m _ 3 hc];exact hX _ (by simp; omega)
theorem Z3e : ∀ (N n : Nat) (s : List UInt8), s.length < n → s.length < N → Q6 N n s = some (Um s)
 | N, 0, s, h, _ => by omega
 | N, n + 1, [], h1, h2 => by simp [Q6, Q9, Qt2]
 | N, n + 1, c :: r, h1, h2 => by
  have h1 : r.length < n := by simp at h1; omega
  have h2 : r.length < N := by simp at h2; omega
  have ih : ∀ t : List UInt8, t.length ≤ r.length → Q6 N n t = some (Um t) := fun t ht => Z3e N n t (by omega) (by omega)
  by_cases hc : c.toNat < 128
  ·exact Z2c N n c r hc h1 h2 ih
  have hlt := c.toNat_lt;simp only [Q6, Q9, Q9m, J6, Wm, By, Mu, Le, Lk, and_true];rw [if_pos (by simp only [Lz]; omega), show idx (c :: r) 0 = some c from rfl];simp only [Lb];rw [if_neg (by omega), Z07 _ hlt];simp only [Lb]
  rcases cls c.toNat hlt (by omega) with ⟨e, h⟩ | ⟨e, h⟩ | ⟨e, h⟩ | ⟨e, h⟩ | ⟨e, h⟩ | ⟨e, h⟩ | ⟨e, h⟩ | ⟨e, h⟩
  ·rw [e, show (idx gtab1 (Q5a .u8 ((241 : Nat) : Int) 4)) = some (0, 0) from by decide];simp only [Lb];rw [if_neg (by decide), if_neg (by decide), if_neg (by decide), Q72 _ (by simp) (by simp only [cpN]; rw [if_neg hc, if_neg (by omega), if_neg (by omega), if_neg (by omega), if_neg (by omega), if_neg (by omega), if_neg (by omega), if_neg (by omega)])]
  ·rw [e, show (idx gtab1 (Q5a .u8 ((2 : Nat) : Int) 4)) = some (128, 191) from by decide];simp only [Lb];rw [if_pos (by decide)];exact Z1q c r 128 191 128 191 rfl rfl ih (by simp only [cpN]; rw [if_neg hc, if_pos h])
  ·rw [e, show (idx gtab1 (Q5a .u8 ((19 : Nat) : Int) 4)) = some (160, 191) from by decide];simp only [Lb];rw [if_neg (by decide), if_pos (by decide)];exact Qn2 c r 160 191 160 191 rfl rfl ih (by simp only [cpN]; rw [if_neg hc, if_neg (by omega), if_pos h])
  ·rw [e, show (idx gtab1 (Q5a .u8 ((3 : Nat) : Int) 4)) = some (128, 191) from by decide];simp only [Lb];rw [if_neg (by decide), if_pos (by decide)];exact Qn2 c r 128 191 128 191 rfl rfl ih (by simp only [cpN]; rw [if_neg hc, if_neg (by omega), if_neg (by omega), if_neg (by omega), if_pos (by omega)])
  ·rw [e, show (idx gtab1 (Q5a .u8 ((35 : Nat) : Int) 4)) = some (128, 159) from by decide];simp only [Lb];rw [if_neg (by decide), if_pos (by decide)];exact Qn2 c r 128 159 128 159 rfl rfl ih (by simp only [cpN]; rw [if_neg hc, if_neg (by omega), if_neg (by omega), if_pos h])
  ·rw [e, show (idx gtab1 (Q5a .u8 ((52 : Nat) : Int) 4)) = some (144, 191) from by decide];simp only [Lb];rw [if_neg (by decide), if_neg (by decide), if_pos (by decide)];exact Qmk c r 144 191 144 191 rfl rfl ih (by simp only [cpN]; rw [if_neg hc, if_neg (by omega), if_neg (by omega), if_neg (by omega), if_neg (by omega), if_pos h])
  ·rw [e, show (idx gtab1 (Q5a .u8 ((4 : Nat) : Int) 4)) = some (128, 191) from by decide];simp only [Lb];rw [if_neg (by decide), if_neg (by decide), if_pos (by decide)];exact Qmk c r 128 191 128 191 rfl rfl ih (by simp only [cpN]; rw [if_neg hc, if_neg (by omega), if_neg (by omega), if_neg (by omega), if_neg (by omega), if_neg (by omega), if_pos h])
  rw [e, show (idx gtab1 (Q5a .u8 ((68 : Nat) : Int) 4)) = some (128, 143) from by decide];simp only [Lb];rw [if_neg (by decide), if_neg (by decide), if_pos (by decide)];exact Qmk c r 128 143 128 143 rfl rfl ih (by simp only [cpN]; rw [if_neg hc, if_neg (by omega), if_neg (by omega), if_neg (by omega), if_neg (by omega), if_neg (by omega), if_neg (by omega), if_pos h])
theorem Qfi (N : Nat) (s : List UInt8) (h : s.length < N) : V9 N s = some (Um s) := Z3e N N s h h
end
end Go.Av
namespace Go.Av
noncomputable section
open Go.Proofs
set_option maxRecDepth 100000
theorem Qdu (s : List UInt8) (i : Nat) (hi : i < s.length) (h : s[i].toNat < 128) : Q6t (s.drop i) = Q6t (s.drop (i + 1)) := by
 rw [Ln hi];simp only [Q6t, Bf, decide_eq_true h, Mo]
theorem Qrn (N : Nat) (v : Q0) (hb : v.Text.length < 4611686018427387904) : ∀ (n i : Nat), v.Text.length - i < n → i ≤ v.Text.length →
  Vi N v n (i : Int) = some (if Q6t (v.Text.drop i) then 0 else 6)
 | 0, i, h, _ => by omega
 | n + 1, i, h, hi => by
  simp only [Vi, Q9, Wm, Qfb]
  by_cases h1 : i < v.Text.length
  ·rw [if_pos (by omega), Zs, La h1];simp only [Lb]
   by_cases h2 : v.Text[i].toNat < 128
   ·rw [if_neg (by omega), Z1 _ (by omega), Qdu _ _ h1 h2]
    exact_mod_cast Qrn N v hb n (i + 1) (by omega) (by omega)
   rw [if_pos (by omega)]
   have : Q6t (v.Text.drop i) = false := by
    rw [Ln h1];simp only [Q6t, Bf, decide_eq_false h2, Nw]
   simp [this]
  rw [if_neg (by omega), Lm (by omega)];rfl
theorem Qzs (N : Nat) (v : Q0) (h : v.Text.length < N) (hb : v.Text.length < 4611686018427387904) : Wq N v = some (Qfz v.Kind v.Text) := by
 simp only [Wq, Q9, J6, Qfz];split
 ·rw [Qfi N _ h];simp only [Lb];cases Um v.Text <;> rfl
 split
 ·have := Qrn N v hb N 0 (by omega) (by omega);simpa using this
 rfl
theorem Z16 (v : Q0) : (((Q0.rows v.Items).length : Int) ≠ 0) = (v.Items ≠ []) := by
 rw [Qh];apply propext;cases v.Items <;> simp; omega
theorem Quz (k : Int) : 0 ≤ (Gt k).1 ∧ (Gt k).1 ≤ 64 ∧ ((Gt k).2 = true → 1 ≤ (Gt k).1) := by
 unfold Gt
 repeat' split
 all_goals simp
def okU (n : Int) : Prop := 0 ≤ n ∧ n < 18446744073709551616
theorem Qou (N : Nat) (v : Q0) (hn : okU v.N') (h : v.Text.length < N) (hb : v.Text.length < 4611686018427387904) : Jw N v = some (Vq v) := by
 obtain ⟨b1, b2, b3⟩ := Quz v.Kind;simp only [Jw, Q9, J6, Wm, Q9m, Q01, Q09, Qsl, Lb, Qdq N _ _ _ hn.1 hn.2 b1 b2 b3, Ql7 N _ hn.1, Qr0, Qzs N v h hb, Z16];unfold Vq
 by_cases h1 : v.Kind < 1
 ·rw [if_pos h1, if_pos (.inl h1)]
 rw [if_neg h1]
 by_cases h2 : v.Kind > 21
 ·rw [if_pos h2, if_pos (.inr h2)]
 rw [if_neg h2, if_neg (show ¬ (v.Kind < 1 ∨ 21 < v.Kind) by omega)];unfold Q7b;generalize Q1d v.N' (Gt v.Kind).1 (Gt v.Kind).2 = fb;cases fb
 ·simp
 simp only [Mg, Lf, if_false, Mo]
 by_cases h16 : v.Kind = 16
 ·rw [if_pos h16]
  have e1 : (v.Kind != 16) = false := by simp [h16]
  have e2 : Q33 v.Kind = false := by rw [h16]; rfl
  rw [e1, e2];simp only [Nq, Bh, if_true]
  cases Qfy v.N' with
  | false => simp
  | true =>
   simp only [Mg, Lf, if_false]
   by_cases hi : v.Items = []
   ·simp only [hi, ne_eq, not_true_eq_false, if_false];simp only [Me, or_self, if_false]
    by_cases ht : v.Text = [] <;> simp [ht]
   simp [hi]
 rw [if_neg h16]
 have e1 : (v.Kind != 16) = true := by simp [h16]
 rw [e1];simp only [Bool.true_or, Me, false_or]
 have e3 : ((v.Text.length : Int) ≠ 16) = (v.Text.length ≠ 16) := by apply propext; omega
 have e4 : ((v.Text.length : Int) > 1048576) = (1048576 < v.Text.length) := by apply propext; omega
 simp only [e3, e4]
 by_cases hi : v.Items = []
 ·simp only [hi, ne_eq, not_true_eq_false, if_false]
  cases Q33 v.Kind with
  | false => by_cases ht : v.Text = [] <;> simp [ht]
  | true =>
   simp only [Mg, Lf, if_false, Me]
   by_cases h15 : v.Kind = 15
   ·simp only [h15, if_true, true_or, true_and]
    by_cases hl : v.Text.length = 16 <;> simp [hl]
   by_cases h18 : v.Kind = 18
   ·simp only [h18, if_true, or_true, true_and]
    by_cases hl : v.Text.length = 16 <;> simp [hl]
   simp only [h15, h18, if_false, or_self, false_and]
   split <;> rfl
 simp [hi]
theorem Qz8 (N : Nat) (c : Qt) (v : Q0) (hn : okU v.N') : Q0l N c v = some (Q4w c v) := by
 simp only [Q0l, Q9, J6, Q4w, Qsl, Lb];split
 ·rfl
 split
 ·split
  ·rename_i h; simp [h]
  rename_i h;simp only [h, false_or, Lc, Q3, decide_eq_decide];omega
 split
 ·rfl
 split
 ·rw [Qdq N _ _ _ hn.1 hn.2 (by omega) (by omega) (by intro _; omega)]; rfl
 rfl
theorem Z0d (N : Nat) (code : Int) (v : Q0) (hn : okU v.N') (h : v.Text.length < N) (hb : v.Text.length < 4611686018427387904) : Q0p N code v = some (Q38 code v) := by
 simp only [Q0p, Je, Q9, J6, Lb, Qou N v hn h hb, Qz8 N _ v hn, Q38];cases ofB code
 ·simp
 simp only [if_true, Mo]
 by_cases h1 : (ofS code).Kind = v.Kind
 ·rw [if_pos h1, decide_eq_true h1]
  by_cases h2 : Vq v = 0
  ·rw [if_pos h2, decide_eq_true h2]; simp
  rw [if_neg h2, decide_eq_false h2]; simp
 rw [if_neg h1, decide_eq_false h1]; simp
theorem Qgv (k : Int) : (Uy k).length ≤ 4 := by
 by_cases h : k < 1 ∨ 25 < k
 ·rw [Q88 k h]; simp
 have hall : ((List.range 26).all fun k => decide ((Uy k).length ≤ 4)) = true := by decide +kernel
 have := Lq.1 hall k.toNat (by simp; omega);rw [show ((k.toNat : Nat) : Int) = k by omega] at this;simpa using this
end
end Go.Av
namespace Go.Av
noncomputable section
open Go.Proofs
set_option maxRecDepth 100000
theorem Qh5 : ∀ (w n : Nat), Q6w n (w + 1) = UInt8.ofNat (n / 256 ^ w % 256) :: Q6w n w
 | 0, n => by simp [Q6w]
 | w + 1, n => by
  rw [Q6w, Qh5 w (n / 256), Q6w, Bi, Nat.div_div_eq_div_mul, Cq, Bt 256]
def Qzy (n : Nat) : Nat → List Int
 | 0 => []
 | w + 1 => ((n / 256 ^ w % 256 : Nat) : Int) :: Qzy n w
theorem Qnk (n : Nat) : ∀ w, (Qzy n w).map (fun n => UInt8.ofNat n.toNat) = Q6w n w
 | 0 => rfl
 | w + 1 => by rw [Qzy, Mn, Qnk n w, Qh5]; rfl
theorem Z1c (m : Nat) (x : Int) (t : List Int) : (List.replicate (m + 1) (0 : Int) ++ t).set m x = List.replicate m 0 ++ (x :: t) := by
 rw [List.replicate_succ', Bp, List.set_append_right _ _ (by simp)];simp
theorem Z05 (x : Int) : IntKind.u8.wrap x = x % 256 := by simp [wrap, IntKind.bits, IntKind.signed]
theorem Z12 (x : Int) : IntKind.u64.wrap x = x % 18446744073709551616 := by simp [wrap, IntKind.bits, IntKind.signed]
theorem Qz0 (N n w : Nat) (hn : n < 18446744073709551616) (hw : w ≤ 8) : ∀ (k i : Nat), i ≤ w → w - i < k → Ur N (n : Int) (w : Int) k (i : Int) (List.replicate (w - i) 0 ++ Qzy n i) = some (Q6w n w)
 | 0, i, h, h2 => by omega
 | k + 1, i, h, h2 => by
  have e1 : ifB (decide ((16 : Int) < (w : Int))) (16 : Int) (w : Int) = w := by rw [decide_eq_false (by omega)]; rfl
  simp only [Ur, Q9, Wm, e1]
  by_cases hi : i < w
  ·rw [if_pos (by omega), if_pos (by omega)]
   have e2 : IntKind.i64.wrap (8 * (i : Int)) = ((8 * i : Nat) : Int) := by rw [Z1 _ (by omega)]; push_cast; rfl
   have e3 : IntKind.u64.wrap ((8 * i : Nat) : Int) = ((8 * i : Nat) : Int) := Q49 _ (by omega)
   have e4 : IntKind.i64.wrap (IntKind.i64.wrap ((w : Int) - 1) - (i : Int)) = ((w - i - 1 : Nat) : Int) := by
    rw [Z1 ((w : Int) - 1) (by omega), Z1 _ (by omega)]; omega
   rw [e2, e3, e4, if_pos (decide_eq_true (Int.natCast_nonneg _))]
   have hlen : (List.replicate (w - i) (0 : Int) ++ Qzy n i).length ≥ w - i := by simp
   rw [Zs, La (by omega)];simp only [Lb]
   have e5 : IntKind.u8.wrap (Q5a .u64 (n : Int) ((8 * i : Nat) : Int)) = ((n / 256 ^ i % 256 : Nat) : Int) := by
    rw [Z05];simp only [Q5a]
    have : min (((8 * i : Nat) : Int).toNat) IntKind.u64.bits = 8 * i := by simp [IntKind.bits]; omega
    rw [this, Ns _ (by have := two_pow_pos (8 * i); omega)];have e0 : (2 : Nat) ^ (8 * i) = 256 ^ i := Nat.pow_mul 2 8 i
    have e : ((2 : Int) ^ (8 * i)) = ((256 ^ i : Nat) : Int) := by rw [← e0]; push_cast; rfl
    rw [e]
    push_cast
    rfl
   rw [e5, show Int.toNat ((w - i - 1 : Nat) : Int) = w - i - 1 from rfl, Z1 _ (by omega)];obtain ⟨m, hm⟩ : ∃ m, w - i = m + 1 := ⟨w - i - 1, by omega⟩;have h3 := Qz0 N n w hn hw k (i + 1) (by omega) (by omega);rw [show w - (i + 1) = m by omega, Qzy] at h3;rw [hm, Nat.add_sub_cancel, Z1c]
   exact_mod_cast h3
  rw [if_neg (by omega)]
  have : i = w := by omega
  subst this;rw [Bs, List.replicate_zero, List.nil_append, Qnk]
theorem Z0i (N n w : Nat) (hn : n < 18446744073709551616) (hw : w ≤ 8) (hN : 10 < N) : Q2g N (n : Int) (w : Int) = some (Q6w n w) := by
 have e1 : ifB (decide ((16 : Int) < (w : Int))) (16 : Int) (w : Int) = w := by rw [decide_eq_false (by omega)]; rfl
 simp only [Q2g, Q9, Q7c, e1]
 by_cases h0 : (w : Int) ≤ 0
 ·rw [if_pos h0]
  have : w = 0 := by omega
  subst this; rfl
 rw [if_neg h0, if_pos (by simp; omega)];have := Qz0 N n w hn hw N 0 (by omega) (by omega);simpa [Qzy] using this
abbrev Z85 (s : List UInt8) : Prop := s.length < 4611686018427387904
end
end Go.Av
namespace Go.Av
noncomputable section
open Go.Proofs
set_option maxRecDepth 100000
def Z3i (code : Int) (t : Int × Int × Int × Bool × Bool) : Bool :=
 decide (t.1 = code) && decide (1 ≤ t.2.1 ∧ t.2.1 ≤ 25) && (t.2.2.2.2 == decide (22 ≤ t.2.1)) &&
 (t.2.2.2.2 || (if t.2.2.2.1 then decide ((t.2.2.1 = 1 ∨ t.2.2.1 = 4) ∧ 19 ≤ t.2.1 ∧ t.2.1 ≤ 21 ∧ t.1 ≠ 65)
  else if t.2.2.1 = 16 then decide ((t.2.1 = 15 ∨ t.2.1 = 18) ∧ t.1 ≠ 65)
  else decide (Q33 t.2.1 = false) && decide (t.2.2.1 = 0 ∨ t.2.2.1 = 1 ∨ t.2.2.1 = 2 ∨ t.2.2.1 = 4 ∨ t.2.2.1 = 8) &&
   decide (t.1 = 65 → t.2.2.1 = 0 ∧ t.2.1 = 2) && decide (t.2.2.1 = 1 → (Gt t.2.1).1 ≤ 8 → (Gt t.2.1).2 = false ∨ (Gt t.2.1).1 = 8) && decide (2 ≤ t.2.2.1 → (Gt t.2.1).1 = 8 * t.2.2.1)))
theorem Qtu : ((List.range 40).all fun k => Z3i (Q0o k) (Us k)) = true := by decide +kernel
structure Well (code : Int) (c : Qt) : Prop where
 code : c.Code = code
 kind : 1 ≤ c.Kind ∧ c.Kind ≤ 25
 items : c.Items = decide (22 ≤ c.Kind)
 sized : c.Items = false → c.Sized = true → (c.Width = 1 ∨ c.Width = 4) ∧ 19 ≤ c.Kind ∧ c.Kind ≤ 21 ∧ c.Code ≠ 65
 wide : c.Items = false → c.Sized = false → c.Width = 16 → (c.Kind = 15 ∨ c.Kind = 18) ∧ c.Code ≠ 65
 num : c.Items = false → c.Sized = false → c.Width ≠ 16 → Q33 c.Kind = false ∧ (c.Width = 0 ∨ c.Width = 1 ∨ c.Width = 2 ∨ c.Width = 4 ∨ c.Width = 8) ∧ (c.Code = 65 → c.Width = 0 ∧ c.Kind = 2) ∧ (2 ≤ c.Width → (Gt c.Kind).1 = 8 * c.Width)
theorem Qrd (code : Int) (h : ofB code = true) : Well code (ofS code) := by
 have h1 : bsI code < 40 ∧ Q0o (bsI code) = code := by simpa [ofB] using h
 have hw := Lq.1 Qtu (bsI code) (by simpa using h1.1);rw [h1.2] at hw
 have e : ofT code = Us (bsI code) := by unfold ofT; rw [if_pos h]
 rw [← e] at hw;have es : ofS code = ⟨(ofT code).1, (ofT code).2.1, (ofT code).2.2.1, (ofT code).2.2.2.1, (ofT code).2.2.2.2⟩ := rfl;rw [es];generalize ofT code = t at hw;obtain ⟨c, k, w, s, i⟩ := t;simp only [Z3i, Le, decide_eq_true_eq, beq_iff_eq] at hw;obtain ⟨⟨⟨h1, h2⟩, h3⟩, h4⟩ := hw;refine ⟨h1, h2, h3, ?_, ?_, ?_⟩ <;> intro hi hs <;> simp only at hi hs
 ·rw [hi, hs] at h4;simpa using h4
 ·intro hw16
  simp only at hw16
  rw [hi, hs, if_pos hw16] at h4;simpa using h4
 intro hw16
 simp only at hw16
 rw [hi, hs, if_neg hw16] at h4;simp only [Nq, Le, decide_eq_true_eq, Lf, if_false] at h4;exact ⟨h4.1.1.1.1, h4.1.1.1.2, h4.1.1.2, h4.2⟩
theorem Qhy (code : Int) (h : ofB code = false) : ofS code = ⟨0, 0, 0, false, false⟩ := by
 unfold ofS ofT;rw [h]; rfl
theorem Q23 {v : Q0} (h : Vq v = 0) : 1 ≤ v.Kind ∧ v.Kind ≤ 21 ∧ Q7b v.Kind v.N' = true ∧ v.Items = [] ∧ (Q33 v.Kind = false → v.Text = []) ∧ (v.Kind = 15 ∨ v.Kind = 18 → v.Text.length = 16) ∧ v.Text.length ≤ 1048576 := by
 unfold Vq at h;split at h
 ·omega
 split at h
 ·omega
 rename_i h1 h2
 have hi : v.Items = [] := by
  apply Lu;intro hn; exact h2 (.inr hn)
 have ho : Q7b v.Kind v.N' = true := by
  cases ho : Q7b v.Kind v.N' with
  | true => rfl
  | false => exact absurd (.inl ho) h2
 split at h
 ·split at h
  ·omega
  rename_i h3 h4
  have ht : v.Text = [] := by
   apply Lu;intro hn; exact h4 hn
  refine ⟨by omega, by omega, ho, hi, fun _ => ht, fun hk => ?_, by rw [ht]; simp⟩
  rcases hk with hk | hk <;> rw [hk] at h3 <;> cases h3
 split at h
 ·omega
 split at h
 ·omega
 rename_i h3 h4 h5
 exact ⟨by omega, by omega, ho, hi, fun ht => absurd ht h3, fun hk => by
  apply Lu
  intro hn; exact h4 ⟨hk, hn⟩, by omega⟩
theorem Qld {k n : Int} (h : Q33 k = true) (hn : Q7b k n = true) (h0 : 0 ≤ n) : n = 0 := by
 unfold Q33 at h;simp only [decide_eq_true_eq] at h
 have hb : Gt k = (0, false) := by
  rcases h with rfl | rfl | rfl | rfl | rfl <;> rfl
 simp only [Q7b, Le, hb, Q1d, Lf, if_false, decide_eq_true_eq] at hn;have := hn.1;simp at this;omega
theorem Qug {c : Qt} {n : Int} {w : Nat} (hw : c.Width = w) (h148 : w = 1 ∨ w = 2 ∨ w = 4 ∨ w = 8) (hn : okU n) (hf : Q1d n (8 * w) (Gt c.Kind).2 = true) : Q7d c ((n.toNat % 256 ^ w : Nat) : Int) = n := by
 obtain ⟨h0, h1⟩ := hn;unfold Q7d;unfold Q1d s64 at hf;cases hs : (Gt c.Kind).2
 ·rw [hs] at hf;simp only [Lf, if_false, decide_eq_true_eq] at hf;simp only [Lf, false_and, if_false]
  rcases h148 with rfl | rfl | rfl | rfl <;> simp at hf ⊢ <;> omega
 rw [hs] at hf;simp only [if_true, decide_eq_true_eq] at hf;simp only [true_and, hw]
 rcases h148 with rfl | rfl | rfl | rfl <;> simp at hf ⊢ <;> split at hf <;> (try split) <;> omega
theorem Quw {c : Qt} {n w : Nat} (hw : c.Width = w) (h148 : w = 1 ∨ w = 2 ∨ w = 4 ∨ w = 8) (hn : n < 256 ^ w) : okU (Q7d c n) ∧ (Q7d c n).toNat % 256 ^ w = n ∧ Q1d (Q7d c n) (8 * w) (Gt c.Kind).2 = true := by
 unfold Q7d okU Q1d s64;cases hs : (Gt c.Kind).2
 ·simp only [Lf, false_and, if_false]
  rcases h148 with rfl | rfl | rfl | rfl <;> simp at hn ⊢ <;> omega
 simp only [true_and, hw, if_true]
 rcases h148 with rfl | rfl | rfl | rfl <;> simp at hn ⊢ <;> split <;> refine ⟨by omega, by omega, ?_⟩ <;> (try split) <;> omega
end
end Go.Av
namespace Go.Av
noncomputable section
open Go.Proofs
set_option maxRecDepth 100000
theorem Q8v {code : Int} {v : Q0} (h : Q38 code v = true) : ofB code = true ∧ (ofS code).Kind = v.Kind ∧ Vq v = 0 ∧ Q4w (ofS code) v = true := by
 simp only [Q38, Le, decide_eq_true_eq] at h;exact ⟨h.1.1.1, h.1.1.2, h.1.2, h.2⟩
theorem Z4d : okU 0 := ⟨by decide, by decide⟩
theorem Zhw : okU 1 := ⟨by decide, by decide⟩
inductive Z5i (c : Qt) : Prop
 | sized (w : Nat) (hs : c.Sized = true) (hw : c.Width = w) (h : w = 1 ∨ w = 4) (hk : 19 ≤ c.Kind ∧ c.Kind ≤ 21) (hc : c.Code ≠ 65)
 | wide (hs : c.Sized = false) (hw : c.Width = 16) (hk : c.Kind = 15 ∨ c.Kind = 18) (hc : c.Code ≠ 65)
 | num (w : Nat) (hs : c.Sized = false) (hw : c.Width = w) (h : w = 0 ∨ w = 1 ∨ w = 2 ∨ w = 4 ∨ w = 8) (ht : Q33 c.Kind = false) (hc : c.Code = 65 → w = 0 ∧ c.Kind = 2) (hb : 2 ≤ w → (Gt c.Kind).1 = 8 * w)
theorem Well.shape {code : Int} {c : Qt} (h : Well code c) (hi : c.Items = false) : Z5i c := by
 cases hs : c.Sized with
 | true =>
  obtain ⟨h1, h2, h3, h4⟩ := h.sized hi hs
  rcases h1 with h1 | h1
  ·exact .sized 1 hs h1 (.inl rfl) ⟨h2, h3⟩ h4
  exact .sized 4 hs h1 (.inr rfl) ⟨h2, h3⟩ h4
 | false =>
  by_cases h16 : c.Width = 16
  ·obtain ⟨h1, h2⟩ := h.wide hi hs h16;exact .wide hs h16 h1 h2
  obtain ⟨h1, h2, h3, h4⟩ := h.num hi hs h16
  have hw : c.Width = (c.Width.toNat : Nat) := by omega
  refine .num c.Width.toNat hs hw (by omega) h1 (fun hc => ?_) (fun hb => ?_)
  ·obtain ⟨q1, q2⟩ := h3 hc;exact ⟨by omega, q2⟩
  have := h4 (by omega);omega
theorem Q3s {code : Int} {c : Qt} (h : Well code c) (hk : c.Kind ≤ 21) : c.Items = false := by
 rw [h.items];exact decide_eq_false (by omega)
theorem Qze (n : Nat) (h : n < 4611686018427387904) : IntKind.u64.wrap (n : Int) = n := Q49 _ (by omega)
end
end Go.Av
namespace Go.Av
noncomputable section
open Go.Proofs
set_option maxRecDepth 100000
theorem Q0.ext' {v w : Q0} (h1 : v.Kind = w.Kind) (h2 : v.N' = w.N') (h3 : v.Text = w.Text) (h4 : v.Items = w.Items) : v = w := by
 cases v; cases w; simp_all
theorem Qm7 {k : Int} (h : 19 ≤ k ∧ k ≤ 21) : Q33 k = true := by
 unfold Q33; exact decide_eq_true (by omega)
theorem Qpv {k : Int} (h : k = 15 ∨ k = 18) : Q33 k = true := by
 unfold Q33; exact decide_eq_true (by omega)
theorem Qb2 {code : Int} {v : Q0} (hf : Q38 code v = true) : (Q30 (ofS code) v).length = (ofS code).Width.toNat + (if (ofS code).Sized then v.Text.length else 0) := by
 obtain ⟨f1, f2, f3, f4⟩ := Q8v hf;obtain ⟨c1, c2, c3, c4, c5, c6, c7⟩ := Q23 f3;have hw := Qrd code f1;have hi := Q3s hw (by omega);unfold Q30
 cases hw.shape hi with
 | sized w hs hw' h12 hk hc => rw [hs]; simp [Jo]
 | wide hs hw' hk hc =>
  rw [hs, hw'];simp [c6 (by omega)]
 | num w hs hw' hh ht hc hbb =>
  rw [hs, hw'];simp only [Lf, if_false];rw [if_neg (by omega), Jo]; rfl
theorem Qw6 {code : Int} {v : Q0} {w : Nat} (_hn : okU v.N') (hf : Q38 code v = true) (hs : (ofS code).Sized = false) (hw' : (ofS code).Width = w) (hh : w = 1 ∨ w = 2 ∨ w = 4 ∨ w = 8) (h65 : (ofS code).Code ≠ 65)
  (hbb : 2 ≤ w → (Gt (ofS code).Kind).1 = 8 * w) : Q1d v.N' (8 * w) (Gt (ofS code).Kind).2 = true := by
 obtain ⟨f1, f2, f3, f4⟩ := Q8v hf;obtain ⟨c1, c2, c3, c4, c5, c6, c7⟩ := Q23 f3;unfold Q4w at f4;rw [if_neg h65, hs, hw'] at f4;simp only [Lf, if_false] at f4;rw [if_neg (by omega)] at f4
 by_cases h1 : w = 1
 ·subst h1;rw [if_pos (by decide)] at f4;exact f4
 simp only [Q7b, Le] at c3;have := c3.1;rw [← f2, hbb (by omega)] at this;exact this
theorem back {code : Int} {v : Q0} (hn : okU v.N') (hf : Q38 code v = true) (s : List UInt8) : Z23 code (Q30 (ofS code) v ++ s) = (v, ((Q30 (ofS code) v).length : Int), 0) := by
 have hlen := Qb2 hf;obtain ⟨f1, f2, f3, f4⟩ := Q8v hf;obtain ⟨c1, c2, c3, c4, c5, c6, c7⟩ := Q23 f3;have hw := Qrd code f1;have hi := Q3s hw (by omega);have nf := fun w => Qw6 (w := w) hn hf;unfold Z23;rw [f1, hi, if_neg (by simp)];have hd : Q30 (ofS code) v = Q30 (ofS code) v := rfl;unfold Q30 at hd hlen ⊢
 cases hw.shape hi with
 | sized w hs hw' h12 hk hc =>
  simp only [hs, hw', if_true, Ms, Bp];have hbl := Jo w v.Text.length;have e1 : (Q6w v.Text.length w ++ (v.Text ++ s)).take w = Q6w v.Text.length w := Ch hbl;have e2 : (Q6w v.Text.length w ++ (v.Text ++ s)).drop w = v.Text ++ s := List.drop_left' hbl;have htx : Q33 v.Kind = true := Qm7 (by omega);have hn0 := Qld htx c3 hn.1
  have e3 : v.Text.length % 256 ^ w = v.Text.length := by
   apply Nl;unfold Q4w at f4;rw [if_neg hc, hs, if_pos rfl, hw'] at f4
   rcases h12 with rfl | rfl
   ·simp at f4; omega
   omega
  rw [e1, e2, Qd1, e3, Ch rfl];rw [if_neg (by simp [hbl]; omega), if_neg (by simp [hbl])];have ev : (⟨(ofS code).Kind, 0, v.Text, []⟩ : Q0) = v := Q0.ext' f2 hn0.symm rfl c4.symm;rw [ev, Qv9, if_pos f3];simp [hbl]
 | wide hs hw' hk hc =>
  simp only [hs, hw', Lf, if_false, if_true];have h16 := c6 (by omega);have htx : Q33 v.Kind = true := Qpv (by omega);have hn0 := Qld htx c3 hn.1;rw [if_neg (by simp [h16]; omega), Ch h16];have ev : (⟨(ofS code).Kind, 0, v.Text, []⟩ : Q0) = v := Q0.ext' f2 hn0.symm rfl c4.symm;rw [ev, Qv9, if_pos f3];simp [h16]
 | num w hs hw' hh ht hc hbb =>
  simp only [hs, hw', Lf, if_false, Ms]
  have h16 : ¬ ((w : Int) = 16) := by omega
  have hbl := Jo w v.N'.toNat;have ht0 := c5 (by rw [← f2]; exact ht);simp only [h16, if_false];rw [if_neg (by simp [hbl]; omega)]
  by_cases h65 : (ofS code).Code = 65
  ·obtain ⟨rfl, hk2⟩ := hc h65;rw [if_pos h65]
   have hn1 : v.N' = 1 := by
    unfold Q4w at f4;rw [if_pos h65] at f4;simpa using f4
   have ev : (⟨(ofS code).Kind, 1, [], []⟩ : Q0) = v := Q0.ext' f2 hn1.symm ht0.symm c4.symm;rw [ev, Qv9, if_pos f3];simp [hbl]
  rw [if_neg h65, Ch hbl, Qd1]
  have e : Q7d (ofS code) ((v.N'.toNat % 256 ^ w : Nat) : Int) = v.N' := by
   rcases hh with rfl | hh
   ·unfold Q4w at f4;rw [if_neg h65, hs, hw'] at f4;simp at f4;unfold Q7d;rw [if_neg (by omega), f4]; rfl
   exact Qug hw' hh hn (nf w hs hw' hh h65 hbb)
  rw [e];have ev : (⟨(ofS code).Kind, v.N', [], []⟩ : Q0) = v := Q0.ext' f2 rfl ht0.symm c4.symm;rw [ev, Qv9, if_pos f3];simp [hbl]
end
end Go.Av
namespace Go.Av
noncomputable section
open Go.Proofs
set_option maxRecDepth 100000
theorem Qph {v x : Q0} {n m : Int} (h : Qv9 v n = (x, m, 0)) : Vq v = 0 ∧ x = v ∧ m = n := by
 unfold Qv9 at h;split at h
 ·rename_i h0;cases h;exact ⟨h0, rfl, rfl⟩
 rename_i h0;simp only [Li] at h;split at h <;> omega
theorem reads {code : Int} {s : List UInt8} {x : Q0} {n : Int} (hs : Z85 s) (h : Z23 code s = (x, n, 0)) : 0 ≤ n ∧ n ≤ s.length ∧ okU x.N' ∧ x.Text.length ≤ s.length ∧ Vq x = 0 ∧ Q38 code x = true ∧ Q30 (ofS code) x = s.take n.toNat := by
 unfold Z23 at h;split at h
 ·cases h
 rename_i h1
 have hb : ofB code = true := by
  cases hb : ofB code with
  | true => rfl
  | false => exact absurd (.inl hb) h1
 have hi : (ofS code).Items = false := by
  cases hi : (ofS code).Items with
  | false => rfl
  | true => exact absurd (.inr hi) h1
 have hw := Qrd code hb;split at h
 ·cases h
 rename_i h2
 have fit : ∀ v : Q0, v.Kind = (ofS code).Kind → Vq v = 0 → Q4w (ofS code) v = true → Q38 code v = true := fun v q1 q2 q3 => by
  simp only [Q38, hb, q1, q2, q3, decide_true, Bool.and_self]
 have hd : ∀ v, Q30 (ofS code) v = Q30 (ofS code) v := fun _ => rfl;unfold Z85 at hs
 cases hw.shape hi with
 | sized w hsz hw' h12 hk hc =>
  simp only [hsz, hw', if_true, Ms] at h;split at h
  ·cases h
  rename_i h3;obtain ⟨q1, rfl, rfl⟩ := Qph h
  have hlw : w ≤ s.length := by omega
  have hmlt := Qv7 (s.take w);rw [Mc, Bm hlw] at hmlt;have hbn := Qrw (s.take w);rw [Mc, Bm hlw] at hbn;generalize hm : Ql9 (s.take w) = m at *
  have hlen : ((s.drop w).take m).length = m := by rw [Mc, Mi]; omega
  refine ⟨by omega, by omega, Z4d, by simp only [hlen]; omega, q1, fit _ rfl q1 ?_, ?_⟩
  ·unfold Q4w;rw [if_neg hc, hsz, if_pos rfl, hw']
   rcases h12 with rfl | rfl
   ·simp only [hlen];simp at hmlt;exact decide_eq_true (.inr (by omega))
   exact decide_eq_true (.inl rfl)
  unfold Q30;simp only [hsz, if_true, hw', Ms, hlen, hbn];rw [show ((w : Int) + (m : Int)).toNat = w + m by omega, List.take_add]
 | wide hsz hw' hk hc =>
  simp only [hsz, hw', Lf, if_false, if_true] at h;obtain ⟨q1, rfl, rfl⟩ := Qph h;refine ⟨by omega, by omega, Z4d, by simp only [Mc]; omega, q1, fit _ rfl q1 ?_, ?_⟩
  ·unfold Q4w;rw [if_neg hc, hsz, hw']; rfl
  unfold Q30;simp only [hsz, hw', Lf, if_false, if_true];rfl
 | num w hsz hw' hh ht hc hbb =>
  simp only [hsz, hw', Lf, if_false, Ms] at h;rw [if_neg (show ¬ ((w : Int) = 16) by omega)] at h;split at h
  ·rename_i h65;obtain ⟨rfl, hk2⟩ := hc h65;obtain ⟨q1, rfl, rfl⟩ := Qph h;refine ⟨by omega, by omega, Zhw, by simp, q1, fit _ rfl q1 ?_, ?_⟩
   ·unfold Q4w;rw [if_pos h65]; rfl
   unfold Q30;simp only [hsz, hw', Lf, if_false];rfl
  rename_i h65;obtain ⟨q1, rfl, rfl⟩ := Qph h
  have hlw : w ≤ s.length := by omega
  have hlt := Qv7 (s.take w);have hbn := Qrw (s.take w);rw [Mc, Bm hlw] at hlt hbn
  rcases hh with rfl | hh
  ·have e0 : Q7d (ofS code) (Ql9 (s.take 0) : Nat) = 0 := by
    unfold Q7d;rw [if_neg (by omega)]; rfl
   rw [e0] at q1 ⊢;refine ⟨by omega, by omega, Z4d, by simp, q1, fit _ rfl q1 ?_, ?_⟩
   ·unfold Q4w;rw [if_neg h65, hsz, hw']; rfl
   unfold Q30;simp only [hsz, hw', Lf, if_false];rfl
  obtain ⟨w1, w2, w3⟩ := Quw hw' hh hlt;refine ⟨by omega, by omega, w1, by simp, q1, fit _ rfl q1 ?_, ?_⟩
  ·unfold Q4w;rw [if_neg h65, hsz, hw'];simp only [Lf, if_false];rw [if_neg (by omega)];split
   ·rename_i h1
    have : w = 1 := by omega
    subst this;exact w3
   rfl
  unfold Q30;simp only [hsz, hw', Lf, if_false, Ms];rw [if_neg (by omega), ← Qoy, w2, hbn]
end
end Go.Av
namespace Go.Av
noncomputable section
open Go.Proofs
set_option maxRecDepth 100000
def refTab : List Qt := (Wp 0).getD []
theorem Qlt (N : Nat) : Wp N = some refTab := rfl
theorem Q8d : refTab.length = 40 := rfl
def Z38 (c : Qt) : Int × Int × Int × Bool × Bool := (c.Code, c.Kind, c.Width, c.Sized, c.Items)
theorem Qx3 {c d : Qt} (h : Z38 c = Z38 d) : c = d := by
 cases c; cases d;simp only [Z38, Li] at h;simp [h]
def Z4e : Option Qt → Qt × Bool
 | some c => (c, true)
 | none => (⟨0, 0, 0, false, false⟩, false)
theorem Qnm (N : Nat) (code : Int) (l : List Qt) (hl : l.length < 1000) : ∀ (n i : Nat), i ≤ l.length → l.length - i < n → Xj N code l n (i : Int) = some (Z4e ((l.drop i).find? (fun c => decide (c.Code = code))))
 | 0, i, _, h => by omega
 | n + 1, i, hi, hn => by
  simp only [Xj, Q9, Wm, J6, Q5, Zs]
  by_cases h : i < l.length
  ·rw [if_pos (by omega), La h, Ln h, Dn];simp only [Lb]
   by_cases hc : l[i].Code = code
   ·rw [if_pos hc, decide_eq_true hc]; rfl
   rw [if_neg hc, decide_eq_false hc, Z1 _ (by omega)]
   exact_mod_cast Qnm N code l hl n (i + 1) (by omega) (by omega)
  rw [if_neg (by omega), Lm (by omega)]; rfl
def Zfx (n : Nat) : Bool := decide ((Z38 (Z4e (refTab.find? (fun c => decide (c.Code = (n : Int))))).1, (Z4e (refTab.find? (fun c => decide (c.Code = (n : Int))))).2) = (Z38 (ofS n), ofB n))
theorem Qwh : ((List.range 256).all Zfx) = true := by decide +kernel
theorem Qf3 {code : Int} (h : ofB code = true) : 0 ≤ code ∧ code < 256 := by
 have h1 : bsI code < 40 ∧ Q0o (bsI code) = code := by simpa [ofB] using h
 have hall : ((List.range 40).all fun k => decide (0 ≤ Q0o k ∧ Q0o k < 256)) = true := by decide +kernel
 have := Lq.1 hall (bsI code) (by simpa using h1.1);rw [h1.2] at this;simpa using this
theorem Qsx : (refTab.all fun c => decide (0 ≤ c.Code ∧ c.Code < 256)) = true := by decide +kernel
theorem Qd5 (N : Nat) (code : Int) (hN : 50 < N) : W2 N code = some (ofS code, ofB code) := by
 simp only [W2, Qlt, Lb];have := Qnm N code refTab (by rw [Q8d]; omega) N 0 (by omega) (by rw [Q8d]; omega);rw [show ((0 : Nat) : Int) = 0 from rfl] at this;rw [this, Mj, Lc]
 by_cases h : 0 ≤ code ∧ code < 256
 ·have h1 := Lq.1 Qwh code.toNat (by simp; omega);simp only [Zfx, show ((code.toNat : Nat) : Int) = code by omega, decide_eq_true_eq, Li] at h1;exact Prod.ext (Qx3 h1.1) h1.2
 have hb : ofB code = false := by
  cases hb : ofB code with
  | false => rfl
  | true => exact absurd (Qf3 hb) h
 have hf : refTab.find? (fun c => decide (c.Code = code)) = none := by
  rw [List.find?_eq_none];intro c hc hcc;have := Lq.1 Qsx c hc;simp only [decide_eq_true_eq] at this hcc;omega
 rw [hf, hb, Qhy code hb]; rfl
theorem Q9l (N : Nat) (kind : Int) (l : List Qt) (hl : l.length < 1000) : ∀ (n i : Nat) (acc : List Int), i ≤ l.length → l.length - i < n → acc.length ≤ i → Zo N kind l n (i : Int) acc = some (acc ++ ((l.drop i).filter (fun c => decide (c.Kind = kind))).map (·.Code))
 | 0, i, acc, _, h, _ => by omega
 | n + 1, i, acc, hi, hn, ha => by
  simp only [Zo, Q9, Wm, J6, Q5, Zs]
  by_cases h : i < l.length
  ·rw [if_pos (by omega), La h, Ln h, List.filter_cons];simp only [Lb]
   by_cases hc : l[i].Kind = kind
   ·rw [if_pos hc, decide_eq_true hc, if_pos (by simp [Nat.ble_eq]; omega), Z1 _ (by omega)];have := Q9l N kind l hl n (i + 1) (acc ++ [l[i].Code]) (by omega) (by omega) (by simp; omega);rw [show ((i : Int) + 1) = ((i + 1 : Nat) : Int) by push_cast; rfl, this];simp
   rw [if_neg hc, decide_eq_false hc, Z1 _ (by omega)];have := Q9l N kind l hl n (i + 1) acc (by omega) (by omega) (by omega);rw [show ((i : Int) + 1) = ((i + 1 : Nat) : Int) by push_cast; rfl, this];simp
  rw [if_neg (by omega), Lm (by omega)]; simp
theorem Qwf : ((List.range 26).all fun k => decide ((refTab.filter (fun c => decide (c.Kind = (k : Int)))).map (·.Code) = Uy k)) = true := by decide +kernel
theorem Qqt : (refTab.all fun c => decide (1 ≤ c.Kind ∧ c.Kind ≤ 25)) = true := by decide +kernel
theorem Qmg (N : Nat) (kind : Int) (hN : 50 < N) : Vt N kind = some (Uy kind) := by
 simp only [Vt, Qlt, Lb];have := Q9l N kind refTab (by rw [Q8d]; omega) N 0 [] (by omega) (by rw [Q8d]; omega) (by simp);rw [show ((0 : Nat) : Int) = 0 from rfl] at this;rw [this, Mj, List.nil_append, Lc]
 by_cases h : kind < 1 ∨ 25 < kind
 ·rw [Q88 kind h, List.map_eq_nil_iff, Cl];intro c hc hcc;have := Lq.1 Qqt c hc;simp only [decide_eq_true_eq] at this hcc;omega
 have h1 := Lq.1 Qwf kind.toNat (by simp; omega);simp only [show ((kind.toNat : Nat) : Int) = kind by omega, decide_eq_true_eq] at h1;exact h1
theorem Qxb (s : List UInt8) (i k lo hi : Nat) : inB (s.drop i) k lo hi = inB s (i + k) lo hi := by
 unfold inB;rw [Mk]
theorem Q6p (N : Nat) (s : List UInt8) (i k lo hi : Nat) : Q8 N s ((i + k : Nat) : Int) (lo : Int) (hi : Int) = some (inB (s.drop i) k lo hi) := by
 rw [Qxb];simp only [Q8, Q9, Wm, Qfb, Zs, inB]
 by_cases h : i + k < s.length
 ·rw [if_pos (by omega), La h];simp only [Lb]
  by_cases h1 : lo ≤ s[i + k].toNat
  ·rw [if_pos (by omega)];simp only [Q3, h1, true_and, Lc, decide_eq_decide]; omega
  rw [if_neg (by omega)];simp only [h1, false_and, decide_false]
 rw [if_neg (by omega), Nu (by omega)]
def cpB (s : List UInt8) (b : Nat) : Nat := if b < 128 then 1
  else if 194 ≤ b ∧ b ≤ 223 then (if inB s 1 128 191 then 2 else 0)
  else if b = 224 then (if inB s 1 160 191 && inB s 2 128 191 then 3 else 0)
  else if b = 237 then (if inB s 1 128 159 && inB s 2 128 191 then 3 else 0)
  else if 225 ≤ b ∧ b ≤ 239 then (if inB s 1 128 191 && inB s 2 128 191 then 3 else 0)
  else if b = 240 then (if inB s 1 144 191 && inB s 2 128 191 && inB s 3 128 191 then 4 else 0)
  else if 241 ≤ b ∧ b ≤ 243 then (if inB s 1 128 191 && inB s 2 128 191 && inB s 3 128 191 then 4 else 0)
  else if b = 244 then (if inB s 1 128 143 && inB s 2 128 191 && inB s 3 128 191 then 4 else 0)
  else 0
theorem Qrb (b : Nat) : (b < 128) ∨ (194 ≤ b ∧ b ≤ 223) ∨ (b = 224) ∨ (b = 237) ∨ (225 ≤ b ∧ b ≤ 239 ∧ b ≠ 237) ∨ (b = 240) ∨ (241 ≤ b ∧ b ≤ 243) ∨ (b = 244) ∨ (128 ≤ b ∧ b < 194) ∨ (244 < b) := by omega
theorem Z02 (N : Nat) (s : List UInt8) (i : Nat) (hb : s.length < 4611686018427387904) (hi : i < s.length) : Uk N s (i : Int) = some ((cpN (s.drop i) : Nat) : Int) := by
 have e1 : IntKind.i64.wrap ((i : Int) + 1) = ((i + 1 : Nat) : Int) := by rw [Z1 _ (by omega)]; push_cast; rfl
 have e2 : IntKind.i64.wrap ((i : Int) + 2) = ((i + 2 : Nat) : Int) := by rw [Z1 _ (by omega)]; push_cast; rfl
 have e3 : IntKind.i64.wrap ((i : Int) + 3) = ((i + 3 : Nat) : Int) := by rw [Z1 _ (by omega)]; push_cast; rfl
 have c0 : Q8 N s ((i + 1 : Nat) : Int) 128 191 = some (inB (s.drop i) 1 128 191) := Q6p N s i 1 128 191;have c1 : Q8 N s ((i + 2 : Nat) : Int) 128 191 = some (inB (s.drop i) 2 128 191) := Q6p N s i 2 128 191;have c2 : Q8 N s ((i + 3 : Nat) : Int) 128 191 = some (inB (s.drop i) 3 128 191) := Q6p N s i 3 128 191;have c3 : Q8 N s ((i + 1 : Nat) : Int) 160 191 = some (inB (s.drop i) 1 160 191) := Q6p N s i 1 160 191;have c4 : Q8 N s ((i + 1 : Nat) : Int) 128 159 = some (inB (s.drop i) 1 128 159) := Q6p N s i 1 128 159;have c5 : Q8 N s ((i + 1 : Nat) : Int) 144 191 = some (inB (s.drop i) 1 144 191) := Q6p N s i 1 144 191;have c6 : Q8 N s ((i + 1 : Nat) : Int) 128 143 = some (inB (s.drop i) 1 128 143) := Q6p N s i 1 128 143;have hd : s.drop i = s[i] :: s.drop (i + 1) := Ln hi
 have hcp : cpN (s.drop i) = cpB (s.drop i) s[i].toNat := by
  rw [hd]; rfl
 rw [hcp];simp only [Uk, Xo, Y1, Xq, Xn, Zg, Yr, Y2, Zs, La hi, Lb, Q9, Wm, Qfb, Q7c, J6, Q01, e1, e2, e3];simp only [c0, c1, c2, c3, c4, c5, c6, Lb, cpB];generalize s[i].toNat = b;generalize inB (s.drop i) 1 128 191 = q1;generalize inB (s.drop i) 2 128 191 = q2;generalize inB (s.drop i) 3 128 191 = q3;generalize inB (s.drop i) 1 160 191 = q4;generalize inB (s.drop i) 1 128 159 = q5;generalize inB (s.drop i) 1 144 191 = q6;generalize inB (s.drop i) 1 128 143 = q7
 rcases Qrb b with h | h | h | h | h | h | h | h | h | h
 ·simp only [show ((b : Int) < 128) = True from eq_true (by omega), show ((b : Int) ≥ 194) = False from eq_false (by omega), show ((b : Int) ≤ 223) = True from eq_true (by omega), show ((b : Int) = 224) = False from eq_false (by omega), show ((b : Int) = 237) = False from eq_false (by omega), show ((b : Int) ≥ 225) = False from eq_false (by omega), show ((b : Int) ≤ 239) = True from eq_true (by omega), show ((b : Int) ≠ 237) = True from eq_true (by omega), show ((b : Int) = 240) = False from eq_false (by omega), show ((b : Int) ≥ 241) = False from eq_false (by omega), show ((b : Int) ≤ 243) = True from eq_true (by omega), show ((b : Int) = 244) = False from eq_false (by omega), show (b < 128) = True from eq_true (by omega), show (194 ≤ b ∧ b ≤ 223) = False from eq_false (by omega), show (b = 224) = False from eq_false (by omega), show (b = 237) = False from eq_false (by omega), show (225 ≤ b ∧ b ≤ 239) = False from eq_false (by omega), show (b = 240) = False from eq_false (by omega), show (241 ≤ b ∧ b ≤ 243) = False from eq_false (by omega), show (b = 244) = False from eq_false (by omega), if_true, if_false, ite_self, Lf]
  try (cases q1 <;> cases q2 <;> cases q3 <;> cases q4 <;> cases q5 <;> cases q6 <;> cases q7 <;> rfl)
 ·simp only [show ((b : Int) < 128) = False from eq_false (by omega), show ((b : Int) ≥ 194) = True from eq_true (by omega), show ((b : Int) ≤ 223) = True from eq_true (by omega), show ((b : Int) = 224) = False from eq_false (by omega), show ((b : Int) = 237) = False from eq_false (by omega), show ((b : Int) ≥ 225) = False from eq_false (by omega), show ((b : Int) ≤ 239) = True from eq_true (by omega), show ((b : Int) ≠ 237) = True from eq_true (by omega), show ((b : Int) = 240) = False from eq_false (by omega), show ((b : Int) ≥ 241) = False from eq_false (by omega), show ((b : Int) ≤ 243) = True from eq_true (by omega), show ((b : Int) = 244) = False from eq_false (by omega), show (b < 128) = False from eq_false (by omega), show (194 ≤ b ∧ b ≤ 223) = True from eq_true (by omega), show (b = 224) = False from eq_false (by omega), show (b = 237) = False from eq_false (by omega), show (225 ≤ b ∧ b ≤ 239) = False from eq_false (by omega), show (b = 240) = False from eq_false (by omega), show (241 ≤ b ∧ b ≤ 243) = False from eq_false (by omega), show (b = 244) = False from eq_false (by omega), if_true, if_false, ite_self, Lf]
  try (cases q1 <;> cases q2 <;> cases q3 <;> cases q4 <;> cases q5 <;> cases q6 <;> cases q7 <;> rfl)
 ·simp only [show ((b : Int) < 128) = False from eq_false (by omega), show ((b : Int) ≥ 194) = True from eq_true (by omega), show ((b : Int) ≤ 223) = False from eq_false (by omega), show ((b : Int) = 224) = True from eq_true (by omega), show ((b : Int) = 237) = False from eq_false (by omega), show ((b : Int) ≥ 225) = False from eq_false (by omega), show ((b : Int) ≤ 239) = True from eq_true (by omega), show ((b : Int) ≠ 237) = True from eq_true (by omega), show ((b : Int) = 240) = False from eq_false (by omega), show ((b : Int) ≥ 241) = False from eq_false (by omega), show ((b : Int) ≤ 243) = True from eq_true (by omega), show ((b : Int) = 244) = False from eq_false (by omega), show (b < 128) = False from eq_false (by omega), show (194 ≤ b ∧ b ≤ 223) = False from eq_false (by omega), show (b = 224) = True from eq_true (by omega), show (b = 237) = False from eq_false (by omega), show (225 ≤ b ∧ b ≤ 239) = False from eq_false (by omega), show (b = 240) = False from eq_false (by omega), show (241 ≤ b ∧ b ≤ 243) = False from eq_false (by omega), show (b = 244) = False from eq_false (by omega), if_true, if_false, ite_self, Lf]
  try (cases q1 <;> cases q2 <;> cases q3 <;> cases q4 <;> cases q5 <;> cases q6 <;> cases q7 <;> rfl)
 ·simp only [show ((b : Int) < 128) = False from eq_false (by omega), show ((b : Int) ≥ 194) = True from eq_true (by omega), show ((b : Int) ≤ 223) = False from eq_false (by omega), show ((b : Int) = 224) = False from eq_false (by omega), show ((b : Int) = 237) = True from eq_true (by omega), show ((b : Int) ≥ 225) = True from eq_true (by omega), show ((b : Int) ≤ 239) = True from eq_true (by omega), show ((b : Int) ≠ 237) = False from eq_false (by omega), show ((b : Int) = 240) = False from eq_false (by omega), show ((b : Int) ≥ 241) = False from eq_false (by omega), show ((b : Int) ≤ 243) = True from eq_true (by omega), show ((b : Int) = 244) = False from eq_false (by omega), show (b < 128) = False from eq_false (by omega), show (194 ≤ b ∧ b ≤ 223) = False from eq_false (by omega), show (b = 224) = False from eq_false (by omega), show (b = 237) = True from eq_true (by omega), show (225 ≤ b ∧ b ≤ 239) = True from eq_true (by omega), show (b = 240) = False from eq_false (by omega), show (241 ≤ b ∧ b ≤ 243) = False from eq_false (by omega), show (b = 244) = False from eq_false (by omega), if_true, if_false, ite_self, Lf]
  try (cases q1 <;> cases q2 <;> cases q3 <;> cases q4 <;> cases q5 <;> cases q6 <;> cases q7 <;> rfl)
 ·simp only [show ((b : Int) < 128) = False from eq_false (by omega), show ((b : Int) ≥ 194) = True from eq_true (by omega), show ((b : Int) ≤ 223) = False from eq_false (by omega), show ((b : Int) = 224) = False from eq_false (by omega), show ((b : Int) = 237) = False from eq_false (by omega), show ((b : Int) ≥ 225) = True from eq_true (by omega), show ((b : Int) ≤ 239) = True from eq_true (by omega), show ((b : Int) ≠ 237) = True from eq_true (by omega), show ((b : Int) = 240) = False from eq_false (by omega), show ((b : Int) ≥ 241) = False from eq_false (by omega), show ((b : Int) ≤ 243) = True from eq_true (by omega), show ((b : Int) = 244) = False from eq_false (by omega), show (b < 128) = False from eq_false (by omega), show (194 ≤ b ∧ b ≤ 223) = False from eq_false (by omega), show (b = 224) = False from eq_false (by omega), show (b = 237) = False from eq_false (by omega), show (225 ≤ b ∧ b ≤ 239) = True from eq_true (by omega), show (b = 240) = False from eq_false (by omega), show (241 ≤ b ∧ b ≤ 243) = False from eq_false (by omega), show (b = 244) = False from eq_false (by omega), if_true, if_false, ite_self, Lf]
  try (cases q1 <;> cases q2 <;> cases q3 <;> cases q4 <;> cases q5 <;> cases q6 <;> cases q7 <;> rfl)
 ·simp only [show ((b : Int) < 128) = False from eq_false (by omega), show ((b : Int) ≥ 194) = True from eq_true (by omega), show ((b : Int) ≤ 223) = False from eq_false (by omega), show ((b : Int) = 224) = False from eq_false (by omega), show ((b : Int) = 237) = False from eq_false (by omega), show ((b : Int) ≥ 225) = True from eq_true (by omega), show ((b : Int) ≤ 239) = False from eq_false (by omega), show ((b : Int) ≠ 237) = True from eq_true (by omega), show ((b : Int) = 240) = True from eq_true (by omega), show ((b : Int) ≥ 241) = False from eq_false (by omega), show ((b : Int) ≤ 243) = True from eq_true (by omega), show ((b : Int) = 244) = False from eq_false (by omega), show (b < 128) = False from eq_false (by omega), show (194 ≤ b ∧ b ≤ 223) = False from eq_false (by omega), show (b = 224) = False from eq_false (by omega), show (b = 237) = False from eq_false (by omega), show (225 ≤ b ∧ b ≤ 239) = False from eq_false (by omega), show (b = 240) = True from eq_true (by omega), show (241 ≤ b ∧ b ≤ 243) = False from eq_false (by omega), show (b = 244) = False from eq_false (by omega), if_true, if_false, ite_self, Lf]
  try (cases q1 <;> cases q2 <;> cases q3 <;> cases q4 <;> cases q5 <;> cases q6 <;> cases q7 <;> rfl)
 ·simp only [show ((b : Int) < 128) = False from eq_false (by omega), show ((b : Int) ≥ 194) = True from eq_true (by omega), show ((b : Int) ≤ 223) = False from eq_false (by omega), show ((b : Int) = 224) = False from eq_false (by omega), show ((b : Int) = 237) = False from eq_false (by omega), show ((b : Int) ≥ 225) = True from eq_true (by omega), show ((b : Int) ≤ 239) = False from eq_false (by omega), show ((b : Int) ≠ 237) = True from eq_true (by omega), show ((b : Int) = 240) = False from eq_false (by omega), show ((b : Int) ≥ 241) = True from eq_true (by omega), show ((b : Int) ≤ 243) = True from eq_true (by omega), show ((b : Int) = 244) = False from eq_false (by omega), show (b < 128) = False from eq_false (by omega), show (194 ≤ b ∧ b ≤ 223) = False from eq_false (by omega), show (b = 224) = False from eq_false (by omega), show (b = 237) = False from eq_false (by omega), show (225 ≤ b ∧ b ≤ 239) = False from eq_false (by omega), show (b = 240) = False from eq_false (by omega), show (241 ≤ b ∧ b ≤ 243) = True from eq_true (by omega), show (b = 244) = False from eq_false (by omega), if_true, if_false, ite_self, Lf]
  try (cases q1 <;> cases q2 <;> cases q3 <;> cases q4 <;> cases q5 <;> cases q6 <;> cases q7 <;> rfl)
 ·simp only [show ((b : Int) < 128) = False from eq_false (by omega), show ((b : Int) ≥ 194) = True from eq_true (by omega), show ((b : Int) ≤ 223) = False from eq_false (by omega), show ((b : Int) = 224) = False from eq_false (by omega), show ((b : Int) = 237) = False from eq_false (by omega), show ((b : Int) ≥ 225) = True from eq_true (by omega), show ((b : Int) ≤ 239) = False from eq_false (by omega), show ((b : Int) ≠ 237) = True from eq_true (by omega), show ((b : Int) = 240) = False from eq_false (by omega), show ((b : Int) ≥ 241) = True from eq_true (by omega), show ((b : Int) ≤ 243) = False from eq_false (by omega), show ((b : Int) = 244) = True from eq_true (by omega), show (b < 128) = False from eq_false (by omega), show (194 ≤ b ∧ b ≤ 223) = False from eq_false (by omega), show (b = 224) = False from eq_false (by omega), show (b = 237) = False from eq_false (by omega), show (225 ≤ b ∧ b ≤ 239) = False from eq_false (by omega), show (b = 240) = False from eq_false (by omega), show (241 ≤ b ∧ b ≤ 243) = False from eq_false (by omega), show (b = 244) = True from eq_true (by omega), if_true, if_false, ite_self, Lf]
  try (cases q1 <;> cases q2 <;> cases q3 <;> cases q4 <;> cases q5 <;> cases q6 <;> cases q7 <;> rfl)
 ·simp only [show ((b : Int) < 128) = False from eq_false (by omega), show ((b : Int) ≥ 194) = False from eq_false (by omega), show ((b : Int) ≤ 223) = True from eq_true (by omega), show ((b : Int) = 224) = False from eq_false (by omega), show ((b : Int) = 237) = False from eq_false (by omega), show ((b : Int) ≥ 225) = False from eq_false (by omega), show ((b : Int) ≤ 239) = True from eq_true (by omega), show ((b : Int) ≠ 237) = True from eq_true (by omega), show ((b : Int) = 240) = False from eq_false (by omega), show ((b : Int) ≥ 241) = False from eq_false (by omega), show ((b : Int) ≤ 243) = True from eq_true (by omega), show ((b : Int) = 244) = False from eq_false (by omega), show (b < 128) = False from eq_false (by omega), show (194 ≤ b ∧ b ≤ 223) = False from eq_false (by omega), show (b = 224) = False from eq_false (by omega), show (b = 237) = False from eq_false (by omega), show (225 ≤ b ∧ b ≤ 239) = False from eq_false (by omega), show (b = 240) = False from eq_false (by omega), show (241 ≤ b ∧ b ≤ 243) = False from eq_false (by omega), show (b = 244) = False from eq_false (by omega), if_true, if_false, ite_self, Lf]
  try (cases q1 <;> cases q2 <;> cases q3 <;> cases q4 <;> cases q5 <;> cases q6 <;> cases q7 <;> rfl)
 ·simp only [show ((b : Int) < 128) = False from eq_false (by omega), show ((b : Int) ≥ 194) = True from eq_true (by omega), show ((b : Int) ≤ 223) = False from eq_false (by omega), show ((b : Int) = 224) = False from eq_false (by omega), show ((b : Int) = 237) = False from eq_false (by omega), show ((b : Int) ≥ 225) = True from eq_true (by omega), show ((b : Int) ≤ 239) = False from eq_false (by omega), show ((b : Int) ≠ 237) = True from eq_true (by omega), show ((b : Int) = 240) = False from eq_false (by omega), show ((b : Int) ≥ 241) = True from eq_true (by omega), show ((b : Int) ≤ 243) = False from eq_false (by omega), show ((b : Int) = 244) = False from eq_false (by omega), show (b < 128) = False from eq_false (by omega), show (194 ≤ b ∧ b ≤ 223) = False from eq_false (by omega), show (b = 224) = False from eq_false (by omega), show (b = 237) = False from eq_false (by omega), show (225 ≤ b ∧ b ≤ 239) = False from eq_false (by omega), show (b = 240) = False from eq_false (by omega), show (241 ≤ b ∧ b ≤ 243) = False from eq_false (by omega), show (b = 244) = False from eq_false (by omega), if_true, if_false, ite_self, Lf]
  try (cases q1 <;> cases q2 <;> cases q3 <;> cases q4 <;> cases q5 <;> cases q6 <;> cases q7 <;> rfl)

end
end Go.Av
namespace Go.Av
noncomputable section
open Go.Proofs
set_option maxRecDepth 100000
theorem Z40 (s : List UInt8) : cpN s ≤ 4 := by
 unfold cpN;split
 ·omega
 repeat' split
 all_goals omega
theorem Qv5 (N : Nat) (s : List UInt8) (hb : s.length < 4611686018427387000) : ∀ (n i : Nat), s.length - i < n → i ≤ s.length + 4 → Yv N s n (i : Int) = some (Um (s.drop i))
 | 0, i, h, _ => by omega
 | n + 1, i, h, hi => by
  simp only [Yv, Q9, Wm, J6]
  by_cases h1 : i < s.length
  ·rw [if_pos (by omega), Z02 N s i (by omega) h1];simp only [Lb];have h4 := Z40 (s.drop i)
   have hne : s.drop i ≠ [] := by
    intro e;have := congrArg List.length e;rw [Mi] at this;simp at this; omega
   cases hc : cpN (s.drop i) with
   | zero =>
    rw [if_pos (by rfl), Q72 _ hne hc]
   | succ k =>
    rw [if_neg (by omega), Z1 _ (by omega), Q5m _ k hc, Nd];have := Qv5 N s hb n (i + (k + 1)) (by omega) (by omega);rw [show ((i : Int) + ((k + 1 : Nat) : Int)) = ((i + (k + 1) : Nat) : Int) by push_cast; rfl];exact this
  rw [if_neg (by omega), Lm (by omega)]; rfl
theorem Qza (N : Nat) (s : List UInt8) (hb : s.length < 4611686018427387000) (h : s.length < N) : Zv N s = some (Um s) := by
 have := Qv5 N s hb N 0 (by omega) (by omega);unfold Zv;simpa using this
theorem Qom (N : Nat) (s : List UInt8) (hb : s.length < 4611686018427387000) : ∀ (n i : Nat), s.length - i < n → i ≤ s.length → Yi N s n (i : Int) = some (Q6t (s.drop i))
 | 0, i, h, _ => by omega
 | n + 1, i, h, hi => by
  simp only [Yi, Q9, Wm, Qfb, Zs]
  by_cases h1 : i < s.length
  ·rw [if_pos (by omega), La h1];simp only [Lb]
   by_cases h2 : s[i].toNat < 128
   ·rw [if_neg (by omega), Z1 _ (by omega), Qdu _ _ h1 h2]
    exact_mod_cast Qom N s hb n (i + 1) (by omega) (by omega)
   rw [if_pos (by omega)]
   have : Q6t (s.drop i) = false := by
    rw [Ln h1];simp only [Q6t, Bf, decide_eq_false h2, Nw]
   rw [this]
  rw [if_neg (by omega), Lm (by omega)]; rfl
theorem Qxm (N : Nat) (s : List UInt8) (hb : s.length < 4611686018427387000) (h : s.length < N) : Ql N s = some (Q6t s) := by
 have := Qom N s hb N 0 (by omega) (by omega);unfold Ql;simpa using this
theorem Qaa (N : Nat) (n b : Int) (hn : okU n) (hb : b = 8 ∨ b = 16 ∨ b = 32) : Zm N n b = some (Q1d n b true) := by
 obtain ⟨h0, h1⟩ := hn;unfold Zm Q1d s64;simp only [Q9, Wm]
 rcases hb with rfl | rfl | rfl
 ·rw [if_pos (by decide), show Q41 .u64 1 (IntKind.u64.wrap (8 - 1)) = 128 by decide, show IntKind.u64.wrap (0 - 128) = 18446744073709551488 by decide];simp only [if_true, Q3];split
  ·rename_i h; rw [decide_eq_true]; simp; split <;> omega
  rename_i h; rw [Lc, decide_eq_decide]; simp; split <;> omega
 ·rw [if_pos (by decide), show Q41 .u64 1 (IntKind.u64.wrap (16 - 1)) = 32768 by decide, show IntKind.u64.wrap (0 - 32768) = 18446744073709518848 by decide];simp only [if_true, Q3];split
  ·rename_i h; rw [decide_eq_true]; simp; split <;> omega
  rename_i h; rw [Lc, decide_eq_decide]; simp; split <;> omega
 rw [if_pos (by decide), show Q41 .u64 1 (IntKind.u64.wrap (32 - 1)) = 2147483648 by decide, show IntKind.u64.wrap (0 - 2147483648) = 18446744071562067968 by decide];simp only [if_true, Q3];split
 ·rename_i h; rw [decide_eq_true]; simp; split <;> omega
 rename_i h; rw [Lc, decide_eq_decide]; simp; split <;> omega
theorem kinds {k : Int} (h : 1 ≤ k ∧ k ≤ 21) : k = 1 ∨ k = 2 ∨ k = 3 ∨ k = 4 ∨ k = 5 ∨ k = 6 ∨ k = 7 ∨ k = 8 ∨ k = 9 ∨ k = 10 ∨ k = 11 ∨ k = 12 ∨ k = 13 ∨ k = 14 ∨ k = 15 ∨ k = 16 ∨ k = 17 ∨ k = 18 ∨ k = 19 ∨ k = 20 ∨ k = 21 := by omega
theorem rZ (n : Int) (h : okU n) : (some (Q3 .eql n 0) : Option Bool) = some (Q1d n 0 false) := by
 have := h.1;simp only [Q1d, Lc, Q3, Lf, if_false];rw [Mq]
 simp; omega
theorem rU (n b B : Int) (hb : IntKind.u64.wrap b = b) (h0 : 0 ≤ b) (hB : Q41 .u64 1 b = B) (h2 : B = 2 ^ b.toNat) : (if decide (0 ≤ IntKind.u64.wrap b) = true then some (Q3 .lss n (Q41 .u64 1 (IntKind.u64.wrap b))) else none) = some (Q1d n b false) := by
 rw [hb, if_pos (by simpa using h0), hB, h2];simp [Q1d, Q3]
theorem r64 (n : Int) (h : okU n) : (some true : Option Bool) = some (Q1d n 64 false) := by
 have := h.2;simp only [Q1d, Lf, if_false];rw [decide_eq_true]; simpa using this
theorem Zgy (n : Int) (h : okU n) : (some true : Option Bool) = some (Q1d n 64 true) := by
 have h1 := h.1;have h2 := h.2;unfold Q1d s64;simp only [if_true];rw [decide_eq_true];simp
 split <;> omega
theorem Qtn (N : Nat) (v : Q0) (hn : okU v.N') (hk : 1 ≤ v.Kind ∧ v.Kind ≤ 21) : W6 N v = some (Q7b v.Kind v.N') := by
 obtain ⟨k, n, t, is⟩ := v
 simp only at hn hk
 have z := rZ n hn;have u8 := rU n 8 256 (by decide) (by decide) (by decide) (by decide);have u1 := rU n 1 2 (by decide) (by decide) (by decide) (by decide);have u16 := rU n 16 65536 (by decide) (by decide) (by decide) (by decide);have u32 := rU n 32 4294967296 (by decide) (by decide) (by decide) (by decide);have u64 := r64 n hn;have s64' := Zgy n hn;have s8 := Qaa N n 8 hn (by simp);have s16 := Qaa N n 16 hn (by simp);have s32 := Qaa N n 32 hn (by simp)
 have w8 : IntKind.u64.wrap (IntKind.i64.wrap (0 - -8)) = 8 := by decide
 have w16 : IntKind.u64.wrap (IntKind.i64.wrap (0 - -16)) = 16 := by decide
 have w32 : IntKind.u64.wrap (IntKind.i64.wrap (0 - -32)) = 32 := by decide
 have tr : ∀ b : Bool, (b && true) = b := by decide
 simp only [W6, Q7b]
 rcases kinds hk with rfl | rfl | rfl | rfl | rfl | rfl | rfl | rfl | rfl | rfl | rfl | rfl | rfl | rfl | rfl | rfl | rfl | rfl | rfl | rfl | rfl
 ·show _ = some (_ && true); rw [tr]; exact z
 ·show _ = some (_ && true); rw [tr]; simp only [show Qw N 2 = some 1 from rfl, Lb, Q9]; exact u1
 ·show _ = some (_ && true); rw [tr]; simp only [show Qw N 3 = some 8 from rfl, Lb, Q9]; exact u8
 ·show _ = some (_ && true); rw [tr]; simp only [show Qw N 4 = some 16 from rfl, Lb, Q9]; exact u16
 ·show _ = some (_ && true); rw [tr]; simp only [show Qw N 5 = some 32 from rfl, Lb, Q9]; exact u32
 ·show _ = some (_ && true); rw [tr]; exact u64
 ·show _ = some (_ && true); rw [tr];simp only [show Qw N 7 = some (-8) from rfl, Lb, Q9, w8, s8]; rfl
 ·show _ = some (_ && true); rw [tr];simp only [show Qw N 8 = some (-16) from rfl, Lb, Q9, w16, s16]; rfl
 ·show _ = some (_ && true); rw [tr];simp only [show Qw N 9 = some (-32) from rfl, Lb, Q9, w32, s32]; rfl
 ·show _ = some (_ && true); rw [tr]; exact s64'
 ·show _ = some (_ && true); rw [tr]; simp only [show Qw N 11 = some 32 from rfl, Lb, Q9]; exact u32
 ·show _ = some (_ && true); rw [tr]; exact u64
 ·show _ = some (_ && true); rw [tr]; simp only [show Qw N 13 = some 32 from rfl, Lb, Q9]; exact u32
 ·show _ = some (_ && true); rw [tr]; exact u64
 ·show _ = some (_ && true); rw [tr]; exact z
 ·show _ = some (_ && Qfy n)
  have e : Ud N n = some (Qfy n) := by
   unfold Ud Qfy;simp only [Q9, Q7c, Wm];split
   ·split
    ·rw [decide_eq_true (by omega)]
    simp only [Q3, Lc, decide_eq_decide]; omega
   rw [decide_eq_false (by omega)]
  simp only [show Qw N 16 = some 32 from rfl, Lb, e];show some (Qfy n) = _;have h0 := hn.1
  cases hc : Qfy n with
  | false => rw [Bool.and_false]
  | true =>
   rw [Dq];unfold Qfy at hc;simp only [decide_eq_true_eq] at hc;simp only [show Gt 16 = (32, false) from rfl, Q1d, Lf, if_false];rw [decide_eq_true]
   simp; omega
 ·show _ = some (_ && true); rw [tr]; exact s64'
 ·show _ = some (_ && true); rw [tr]; exact z
 ·show _ = some (_ && true); rw [tr]; exact z
 ·show _ = some (_ && true); rw [tr]; exact z
 show _ = some (_ && true); rw [tr]; exact z
theorem Qw8 (N : Nat) (k : Int) (h : k ≤ 21) : Wl N k = some (Q33 k) := by
 unfold Wl Q33;simp only [Q9, J6, Qfb];split
 ·rename_i h1; simp [h1]
 split
 ·simp only [Q3, Lc, decide_eq_decide]; omega
 rw [decide_eq_false (by omega)]
theorem Z0x (v : Q0) : (((Q0.rows v.Items).length : Int) > 0) = (v.Items ≠ []) := by
 rw [Qh];apply propext;cases v.Items <;> simp
theorem Q9f (N : Nat) (v : Q0) (hn : okU v.N') (h : v.Text.length < N) (hb : v.Text.length < 4611686018427387000) : Xg N v = some (Vq v) := by
 simp only [Xg, Q9, J6, Wm, Q9m, Q01, Q09, Qza N v.Text hb h, Qxm N v.Text hb h, Z0x, Lb]
 have e3 : ((v.Text.length : Int) ≠ 16) = (v.Text.length ≠ 16) := by apply propext; omega
 have e4 : ((1048576 : Int) < v.Text.length) = (1048576 < v.Text.length) := by apply propext; omega
 have e4' : ((v.Text.length : Int) > 1048576) = (1048576 < v.Text.length) := by apply propext; omega
 simp only [e3, e4, gt_iff_lt];unfold Vq
 by_cases h1 : v.Kind < 1
 ·rw [if_pos (show v.Kind < 1 ∨ 21 < v.Kind from .inl h1), if_neg (show ¬ v.Kind = 15 by omega), if_pos h1]
 by_cases h2 : 21 < v.Kind
 ·rw [if_pos (show v.Kind < 1 ∨ 21 < v.Kind from .inr h2), if_neg (show ¬ v.Kind = 15 by omega), if_neg h1, if_pos h2]
 rw [if_neg (show ¬ (v.Kind < 1 ∨ 21 < v.Kind) by omega)];simp only [h1, h2, if_false, Qtn N v hn (show 1 ≤ v.Kind ∧ v.Kind ≤ 21 by omega), Qw8 N v.Kind (show v.Kind ≤ 21 by omega), Lb]
 cases ho : Q7b v.Kind v.N' with
 | false => simp
 | true =>
  simp only [Mg, Lf, if_false, Me, false_or]
  by_cases hi : v.Items = []
  ·simp only [hi, ne_eq, not_true_eq_false, if_false]
   by_cases h15 : v.Kind = 15
   ·have ht : Q33 15 = true := rfl;simp only [ht, h15, if_true, Mg, Lf, if_false, Me, true_or, true_and, show ¬ ((15 : Int) = 20) by decide, show ¬ ((15 : Int) = 21) by decide, Qfz]
    by_cases hl : v.Text.length = 16 <;> simp [hl]
   by_cases h18 : v.Kind = 18
   ·have ht : Q33 18 = true := rfl;simp only [ht, h18, if_true, Mg, Lf, if_false, Me, or_true, true_and, show ¬ ((18 : Int) = 20) by decide, show ¬ ((18 : Int) = 21) by decide, show ¬ ((18 : Int) = 15) by decide, Qfz]
    by_cases hl : v.Text.length = 16 <;> simp [hl]
   by_cases h20 : v.Kind = 20
   ·have ht : Q33 20 = true := rfl;simp only [ht, h20, if_true, Mg, Lf, if_false, Me, show ¬ ((20 : Int) = 18) by decide, show ¬ ((20 : Int) = 21) by decide, show ¬ ((20 : Int) = 15) by decide, Qfz, or_self, false_and];cases Um v.Text <;> split <;> simp_all
   by_cases h21 : v.Kind = 21
   ·have ht : Q33 21 = true := rfl;simp only [ht, h21, if_true, Mg, Lf, if_false, Me, show ¬ ((21 : Int) = 18) by decide, show ¬ ((21 : Int) = 20) by decide, show ¬ ((21 : Int) = 15) by decide, Qfz, or_self, false_and];cases Q6t v.Text <;> split <;> simp_all
   simp only [h15, h18, h20, h21, if_false, or_self, false_and, Qfz]
   cases ht : Q33 v.Kind with
   | false =>
    simp only [Bh, if_true]
    by_cases htt : v.Text = [] <;> simp [htt]
   | true =>
    simp only [Mg, Lf, if_false, Me]
    split <;> rfl
  simp [hi]
end
end Go.Av
namespace Go.Av
noncomputable section
open Go.Proofs
set_option maxRecDepth 100000
def Qtz (k : Nat) : Bool := (Us k).2.2.2.2 || (Us k).2.2.2.1 || !decide ((Us k).2.2.1 = 1) || decide (((Us k).1 = 80 ∧ (Us k).2.1 = 3) ∨ ((Us k).1 = 81 ∧ (Us k).2.1 = 7) ∨ ((Us k).1 = 82 ∧ (Us k).2.1 = 5) ∨ ((Us k).1 = 83 ∧ (Us k).2.1 = 6) ∨ ((Us k).1 = 84 ∧ (Us k).2.1 = 9) ∨ ((Us k).1 = 85 ∧ (Us k).2.1 = 10) ∨ ((Us k).1 = 86 ∧ (Us k).2.1 = 2))
theorem Qqg : ((List.range 40).all Qtz) = true := by decide +kernel
theorem Qs9 {P : Int × Int × Int × Bool × Bool → Prop} {B : Nat → Bool} (hB : ((List.range 40).all B) = true) (hP : ∀ k, B k = true → P (Us k)) {code : Int} (h : ofB code = true) : P (ofT code) := by
 have h1 : bsI code < 40 ∧ Q0o (bsI code) = code := by simpa [ofB] using h
 have := Lq.1 hB (bsI code) (by simpa using h1.1)
 have e : ofT code = Us (bsI code) := by unfold ofT; rw [if_pos h]
 rw [e]; exact hP _ this
theorem Z3d {code : Int} (h : ofB code = true) (hi : (ofS code).Items = false) (hs : (ofS code).Sized = false) (hw : (ofS code).Width = 1) :
  (code = 80 ∧ (ofS code).Kind = 3) ∨ (code = 81 ∧ (ofS code).Kind = 7) ∨ (code = 82 ∧ (ofS code).Kind = 5) ∨ (code = 83 ∧ (ofS code).Kind = 6) ∨ (code = 84 ∧ (ofS code).Kind = 9) ∨ (code = 85 ∧ (ofS code).Kind = 10) ∨ (code = 86 ∧ (ofS code).Kind = 2) := by
 have hc := (Qrd code h).code
 have := Qs9 (P := fun t => t.2.2.2.2 = false → t.2.2.2.1 = false → t.2.2.1 = 1 → (t.1 = 80 ∧ t.2.1 = 3) ∨ (t.1 = 81 ∧ t.2.1 = 7) ∨ (t.1 = 82 ∧ t.2.1 = 5) ∨ (t.1 = 83 ∧ t.2.1 = 6) ∨ (t.1 = 84 ∧ t.2.1 = 9) ∨ (t.1 = 85 ∧ t.2.1 = 10) ∨ (t.1 = 86 ∧ t.2.1 = 2)) Qqg (fun k hk h1 h2 h3 => by
  simp only [Qtz, h1, h2, h3, Nq, decide_true, Mg, decide_eq_true_eq] at hk
  exact hk) h
 have h2 := this hi hs hw;have hc' : (ofT code).1 = code := hc;rw [hc'] at h2;exact h2
theorem o8x : ((List.range 4).all fun j => decide ((ofS (82 + (j : Int))).Sized = false ∧ (ofS (82 + (j : Int))).Width = 1)) = true := by decide +kernel
theorem Quf {code : Int} (h : code = 82 ∨ code = 83 ∨ code = 84 ∨ code = 85) : (ofS code).Sized = false ∧ (ofS code).Width = 1 := by
 have := Lq.1 o8x (code - 82).toNat (by simp; omega);simp only [decide_eq_true_eq] at this
 rwa [show ((82 : Int) + ((code - 82).toNat : Nat)) = code by omega] at this
theorem Qhc (N : Nat) (code : Int) (v : Q0) (hn : okU v.N') (h : v.Text.length < N) (hb : v.Text.length < 4611686018427387000) (hN : 50 < N) : V6 N code v = some (Q38 code v) := by
 simp only [V6, Qd5 N code hN, Lb, Q9, Q9f N v hn h hb, Q01, J6, Qaa N v.N' 8 hn (by simp), Q38]
 cases hob : ofB code with
 | false => rfl
 | true =>
  simp only [Mg, Lf, if_false, Mo]
  by_cases hk : (ofS code).Kind = v.Kind
  ·rw [if_neg (show ¬ ((ofS code).Kind ≠ v.Kind) by simp [hk]), decide_eq_true hk, Mo]
   by_cases hc : Vq v = 0
   ·rw [if_neg (show ¬ (Vq v ≠ 0) by simp [hc]), decide_eq_true hc, Mo];obtain ⟨c1, c2, c3, c4, c5, c6, c7⟩ := Q23 hc;have hw := Qrd code hob;have hi := Q3s hw (by omega);have hcd := hw.code;unfold Q4w;rw [hcd]
    by_cases h65 : code = 65
    ·rw [if_pos h65, if_pos h65]; rfl
    rw [if_neg h65, if_neg h65]
    cases hw.shape hi with
    | sized w hs hw' h12 hk2 hcc =>
     rw [if_neg (show ¬ (ofS code).Width = 0 by omega), hs, if_pos rfl, if_pos rfl, hw']
     have n8 : ∀ c : Int, c = 82 ∨ c = 83 ∨ c = 84 ∨ c = 85 → code ≠ c := fun c hc e => by
      subst e;have := (Quf hc).1;rw [hs] at this; cases this
     rw [if_neg (n8 82 (by simp)), if_neg (n8 83 (by simp)), if_neg (n8 84 (by simp)), if_neg (n8 85 (by simp))]
     rcases h12 with rfl | rfl
     ·rw [if_pos (by decide)]; simp only [Q3, Lc, decide_eq_decide]; omega
     rw [if_neg (by decide)]; rfl
    | wide hs hw' hk2 hcc =>
     have n8 : ∀ c : Int, c = 82 ∨ c = 83 ∨ c = 84 ∨ c = 85 → code ≠ c := fun c hc e => by
      subst e;have := (Quf hc).2;omega
     rw [hs, hw'];simp only [n8 82 (by simp), n8 83 (by simp), n8 84 (by simp), n8 85 (by simp), if_false, Lf, show ¬ ((16 : Int) = 0) by decide, show ¬ ((16 : Int) = 1) by decide]
    | num w hs hw' hh ht hcc hbb =>
     rw [hs, if_neg (show ¬ (false = true) by simp), if_neg (show ¬ (false = true) by simp)]
     by_cases h0 : (ofS code).Width = 0
     ·rw [if_pos h0, if_pos h0]; rfl
     rw [if_neg h0, if_neg h0]
     by_cases h1 : (ofS code).Width = 1
     ·rw [if_pos h1]
      have ok1 : Q1d v.N' (Gt v.Kind).1 (Gt v.Kind).2 = true := by
       simp only [Q7b, Le] at c3; exact c3.1
      rw [← hk] at ok1
      rcases Z3d hob hi hs h1 with ⟨e1, e2⟩ | ⟨e1, e2⟩ | ⟨e1, e2⟩ | ⟨e1, e2⟩ | ⟨e1, e2⟩ | ⟨e1, e2⟩ | ⟨e1, e2⟩
      ·rw [e2] at ok1 ⊢;simp only [e1, show ¬ ((80 : Int) = 82) by decide, show ¬ ((80 : Int) = 83) by decide, show ¬ ((80 : Int) = 84) by decide, show ¬ ((80 : Int) = 85) by decide, if_false];exact congrArg some ok1.symm
      ·rw [e2] at ok1 ⊢;simp only [e1, show ¬ ((81 : Int) = 82) by decide, show ¬ ((81 : Int) = 83) by decide, show ¬ ((81 : Int) = 84) by decide, show ¬ ((81 : Int) = 85) by decide, if_false];exact congrArg some ok1.symm
      ·rw [e2, e1, if_pos rfl]; rfl
      ·rw [e2, e1, if_neg (by decide), if_pos rfl]; rfl
      ·rw [e2, e1, if_neg (by decide), if_neg (by decide), if_pos rfl]; rfl
      ·rw [e2, e1, if_neg (by decide), if_neg (by decide), if_neg (by decide), if_pos rfl]; rfl
      rw [e2] at ok1 ⊢;simp only [e1, show ¬ ((86 : Int) = 82) by decide, show ¬ ((86 : Int) = 83) by decide, show ¬ ((86 : Int) = 84) by decide, show ¬ ((86 : Int) = 85) by decide, if_false]
      have : Q1d v.N' 8 false = true := by
       simp only [show Gt 2 = (1, false) from rfl, Q1d, Lf, if_false, decide_eq_true_eq] at ok1 ⊢;simp at ok1 ⊢; omega
      exact congrArg some this.symm
     rw [if_neg h1]
     have n8 : ∀ c : Int, c = 82 ∨ c = 83 ∨ c = 84 ∨ c = 85 → code ≠ c := fun c hc e => by
      subst e;exact h1 (Quf hc).2
     rw [if_neg (n8 82 (by simp)), if_neg (n8 83 (by simp)), if_neg (n8 84 (by simp)), if_neg (n8 85 (by simp))]
   rw [if_pos (show Vq v ≠ 0 from hc), decide_eq_false hc]; rfl
  rw [if_pos (show (ofS code).Kind ≠ v.Kind from hk), decide_eq_false hk]; rfl
theorem Qyl (N w : Nat) (hw : w ≤ 8) : ∀ (k i n : Nat) (out : List UInt8), n < 18446744073709551616 → i ≤ w → w - i < k → out.length ≤ i → X0 N (w : Int) k (n : Int) out (i : Int) = some (Q6w n (w - i) ++ out)
 | 0, i, n, out, _, _, h, _ => by omega
 | k + 1, i, n, out, hn, hi, hk, ho => by
  simp only [X0, Q9, Wm]
  by_cases h : i < w
  ·rw [if_pos (by omega), if_pos (by simp [Nat.ble_eq]; omega), Z1 _ (by omega)]
   have e1 : Q5a .u64 (n : Int) 8 = ((n / 256 : Nat) : Int) := by
    simp only [Q5a];rw [show min (Int.toNat 8) IntKind.u64.bits = 8 from rfl, Ns _ (by decide)]
    push_cast; rfl
   have e2 : UInt8.ofNat (IntKind.u8.wrap (n : Int)).toNat = UInt8.ofNat (n % 256) := by
    rw [Z05]; congr 1
   have := Qyl N w hw k (i + 1) (n / 256) (UInt8.ofNat (n % 256) :: out) (by omega) (by omega) (by omega) (by simp; omega);rw [e1, e2, show ((i : Int) + 1) = ((i + 1 : Nat) : Int) by push_cast; rfl, List.singleton_append, this];obtain ⟨m, hm⟩ : ∃ m, w - i = m + 1 := ⟨w - i - 1, by omega⟩;rw [hm, show w - (i + 1) = m by omega, Q6w];simp
  rw [if_neg (by omega), show w - i = 0 by omega]; rfl
theorem Qh4 (N n w : Nat) (hn : n < 18446744073709551616) (hw : w ≤ 8) (hN : 10 < N) : Y4 N (n : Int) (w : Int) = some (Q6w n w) := by
 have := Qyl N w hw N 0 n [] hn (by omega) (by omega) (by simp);unfold Y4;rw [show (0 : Int) = ((0 : Nat) : Int) from rfl, this]; simp
theorem Qrs (N : Nat) (code : Int) (v : Q0) (hn : okU v.N') (h : v.Text.length < N) (hb : v.Text.length < 4611686018427387000) (hN : 50 < N) : J0 N code v = some (Qy9 code v) := by
 simp only [J0, Q9f N v hn h hb, Qhc N code v hn h hb hN, Qd5 N code hN, Lb, Q9, Q01, J6, Qy9]
 by_cases h1 : Vq v = 0
 ·rw [if_neg (show ¬ (Vq v ≠ 0) by simp [h1]), if_neg (show ¬ (Vq v ≠ 0) by simp [h1])]
  cases hf : Q38 code v with
  | false => rfl
  | true =>
   obtain ⟨f1, f2, f3, f4⟩ := Q8v hf;obtain ⟨c1, c2, c3, c4, c5, c6, c7⟩ := Q23 f3;have hw := Qrd code f1;have hi := Q3s hw (by omega);simp only [Mg, Lf, if_false, Me];generalize ofS code = c at *;unfold Q30
   cases hw.shape hi with
   | sized w hs hw' h12 hk hc =>
    rw [hs, hw', Qze _ (by omega), Qh4 N _ w (by omega) (by omega) (by omega)];simp only [if_true, Lb, Ms];rw [if_pos (by simp [Nat.ble_eq, Jo]; omega)]
   | wide hs hw' hk hc => rw [hs, hw']; rfl
   | num w hs hw' hh ht hc hbb =>
    have e : v.N' = ((v.N'.toNat : Nat) : Int) := by have := hn.1; omega
    have hlt : v.N'.toNat < 18446744073709551616 := by have := hn.2; have := hn.1; omega
    rw [hs, hw', e, Qh4 N _ w hlt (by omega) (by omega)];simp only [Lf, if_false, Lb, Ms];rw [if_neg (by omega), if_neg (by omega)]
 rw [if_pos (show Vq v ≠ 0 from h1), if_pos (show Vq v ≠ 0 from h1)]
end
end Go.Av
namespace Go.Av
noncomputable section
open Go.Proofs
set_option maxRecDepth 100000
end
end Go.Av
namespace Go.Av
noncomputable section
open Go.Proofs
set_option maxRecDepth 100000
theorem Qyb {P : Q0 → Prop} (h : ∀ v, (∀ x ∈ v.Items, P x) → P v) : ∀ (n : Nat) (v : Q0), v.sz ≤ n → P v
 | 0, v, hn => by have := v.sz_eq; omega
 | n + 1, v, hn => h v (fun x hx => Qyb h n x (by have := v.sz_eq; have := Q0.szs_mem _ x hx; omega))
theorem Q0.ind {P : Q0 → Prop} (h : ∀ v, (∀ x ∈ v.Items, P x) → P v) (v : Q0) : P v := Qyb h v.sz v (Lk _)
theorem Qoc {R : Q0 → Q0 → Option Bool} {N : Nat} {a b : Q0} (hlen : a.Items.length = b.Items.length) (hb : a.Items.length < 4611686018427387904)
  (hR : ∀ y ∈ a.Items, ∀ z, R y z = some (decide (y = z))) : ∀ (n i : Nat), i ≤ a.Items.length → a.Items.length - i < n →
  V1 R N a b n (i : Int) = some (decide (a.Items.drop i = b.Items.drop i))
 | 0, i, _, h => by omega
 | n + 1, i, h1, h2 => by
  simp only [V1, Q9, Wm, Qh]
  by_cases hi : i < a.Items.length
  ·rw [if_pos (by omega), Zs, Zs, La hi, La (show i < b.Items.length by omega)];simp only [Lb, hR _ (Lp hi)];rw [Z1 _ (by omega)];have ih := Qoc (N := N) hlen hb hR n (i + 1) (by omega) (by omega);rw [Ln hi, Ln (show i < b.Items.length by omega)]
   by_cases he : a.Items[i] = b.Items[i]
   ·rw [← he]; simp only [decide_true, Mg, Lf, if_false, Bb, true_and]
    exact_mod_cast ih
   have hne : ¬ (a.Items[i] :: List.drop (i + 1) a.Items = b.Items[i] :: List.drop (i + 1) b.Items) := fun e => he (List.cons.inj e).1;simp only [he, decide_false, Bh, if_true];rw [decide_eq_false hne]
  rw [if_neg (by omega), Lm (by omega), Lm (by omega)];simp
theorem Qsd : ∀ (N : Nat) (a b : Q0), a.sz < N → a.sz < 1000000000 → J2 N a b = some (decide (a = b))
 | 0, a, b, h, _ => by have := a.sz_eq; omega
 | N + 1, a, b, h, h2 => by
  have hs := a.sz_eq;have hl := Q0.szs_len a.Items;simp only [J2, Q1f, Q9, Q01, Q09, Qh]
  by_cases e1 : a.Kind = b.Kind
  ·by_cases e2 : a.N' = b.N'
   ·by_cases e3 : a.Text = b.Text
    ·by_cases e4 : a.Items.length = b.Items.length
     ·rw [if_neg (by simp [e1]), if_neg (by simp [e2]), if_neg (by simp [e3]), if_neg (by simp [e4])];have := Qoc (N := N) (R := J2 N) e4 (by omega) (fun y hy z => Qsd N y z (by have := Q0.szs_mem _ y hy; omega) (by have := Q0.szs_mem _ y hy; omega)) N 0 (by omega) (by omega);rw [show (0 : Int) = ((0 : Nat) : Int) from rfl, this];cases a; cases b; simp_all
     rw [if_neg (by simp [e1]), if_neg (by simp [e2]), if_neg (by simp [e3]), if_pos (by omega)];have : a ≠ b := fun e => e4 (by rw [e]);simp [this]
    rw [if_neg (by simp [e1]), if_neg (by simp [e2]), if_pos (by simpa using e3)];have : a ≠ b := fun e => e3 (by rw [e]);simp [this]
   rw [if_neg (by simp [e1]), if_pos (by simpa using e2)];have : a ≠ b := fun e => e2 (by rw [e]);simp [this]
  rw [if_pos (by simpa using e1)];have : a ≠ b := fun e => e1 (by rw [e]);simp [this]
end
end Go.Av
namespace Go.Av
noncomputable section
open Go.Proofs
set_option maxRecDepth 100000
def nnS (v : Q0) : Bool := (Zj 0 v).getD false
theorem Qzo (N : Nat) (v : Q0) : Zj N v = some (nnS v) := by
 have h : Zj N v = Zj 0 v := rfl;rw [h];unfold nnS Zj;simp only [Q9]
 repeat' split
 all_goals rfl
mutual
def Q4b : Q0 → Q0 → Bool
 | .mk k n t is, b => decide (k = b.Kind) && (decide (t = b.Text) && (decide (is.length = b.Items.length) && ((decide (n = b.N') || (nnS ⟨k, n, t, is⟩ && nnS b)) && Q3v is b.Items)))
def Q3v : List Q0 → List Q0 → Bool
 | [], _ => true
 | x :: l, y :: m => Q4b x y && Q3v l m
 | _ :: _, [] => false
end
theorem Qf1 (a b : Q0) : Q4b a b = (decide (a.Kind = b.Kind) && (decide (a.Text = b.Text) && (decide (a.Items.length = b.Items.length) && ((decide (a.N' = b.N') || (nnS a && nnS b)) && Q3v a.Items b.Items)))) := by
 cases a; simp only [Q4b]
theorem Qob {R : Q0 → Q0 → Option Bool} {N : Nat} {a b : Q0} (hlen : a.Items.length = b.Items.length) (hb : a.Items.length < 4611686018427387904)
  (hR : ∀ y ∈ a.Items, ∀ z, R y z = some (Q4b y z)) : ∀ (n i : Nat), i ≤ a.Items.length → a.Items.length - i < n →
  Wh R N a b n (i : Int) = some (Q3v (a.Items.drop i) (b.Items.drop i)) ∧ Wi R N a b n (i : Int) = some (Q3v (a.Items.drop i) (b.Items.drop i))
 | 0, i, _, h => by omega
 | n + 1, i, h1, h2 => by
  simp only [Wh, Wi, Q9, Wm, Qh]
  by_cases hi : i < a.Items.length
  ·rw [if_pos (by omega), if_pos (by omega), Zs, Zs, La hi, La (show i < b.Items.length by omega)];simp only [Lb, hR _ (Lp hi)];rw [Z1 _ (by omega)];obtain ⟨ih1, ih2⟩ := Qob (N := N) hlen hb hR n (i + 1) (by omega) (by omega);rw [Ln hi, Ln (show i < b.Items.length by omega), Q3v]
   cases Q4b a.Items[i] b.Items[i] with
   | true =>
    simp only [Mg, Lf, if_false, Mo];exact ⟨by exact_mod_cast ih1, by exact_mod_cast ih2⟩
   | false => simp
  rw [if_neg (by omega), if_neg (by omega), Lm (by omega)];simp [Q3v]
theorem Qpf : ∀ (N : Nat) (a b : Q0), a.sz < N → a.sz < 1000000000 → Uc N a b = some (Q4b a b)
 | 0, a, b, h, _ => by have := a.sz_eq; omega
 | N + 1, a, b, h, h2 => by
  have hs := a.sz_eq;have hl := Q0.szs_len a.Items;rw [Qf1];simp only [Uc, Q0s, Q9, Q01, Q09, Qh, Qzo, Lb]
  by_cases e1 : a.Kind = b.Kind
  ·by_cases e3 : a.Text = b.Text
   ·by_cases e4 : a.Items.length = b.Items.length
    ·rw [if_neg (by simp [e1]), if_neg (by simp [e3]), if_neg (by simp [e4])];obtain ⟨i1, i2⟩ := Qob (N := N) (R := Uc N) e4 (by omega) (fun y hy z => Qpf N y z (by have := Q0.szs_mem _ y hy; omega) (by have := Q0.szs_mem _ y hy; omega)) N 0 (by omega) (by omega);rw [show ((0 : Nat) : Int) = 0 from rfl] at i1 i2;rw [i1, i2, Mj, Mj];simp only [e1, e3, e4, decide_true, Mo]
     by_cases e2 : a.N' = b.N'
     ·simp [e2]
     simp only [e2, ne_eq, not_false_eq_true, if_true, decide_false, Nq];cases nnS a <;> cases nnS b <;> simp
    rw [if_neg (by simp [e1]), if_neg (by simp [e3]), if_pos (by omega)];simp [e4]
   rw [if_neg (by simp [e1]), if_pos (by simpa using e3)];simp [e3]
  rw [if_pos (by simpa using e1)];simp [e1]
def AL (v : Q0) (i j : Nat) : Prop := ∃ x y, v.Items[i]? = some x ∧ v.Items[j]? = some y ∧ Q4b x y = true
open Classical in
noncomputable def Q77 (v : Q0) : Int := if v.Kind ≠ 23 then 0 else if ∃ i j, 2 ≤ i ∧ i % 2 = 0 ∧ i < v.Items.length ∧ j < i ∧ j % 2 = 0 ∧ AL v i j then 16 else 0
open Classical in
theorem Qtg {N : Nat} {v : Q0} (hb : v.sz < 1000000000) (hN : v.sz < N) {k0 : Int → Option Int} {i : Nat} (hi : i < v.Items.length) (i2 : i % 2 = 0) : ∀ (n k : Nat), i - k < n → k % 2 = 0 → k ≤ i →
  Wt N k0 v (i : Int) n (k : Int) = if ∃ j, k ≤ j ∧ j < i ∧ j % 2 = 0 ∧ AL v i j then some 16 else k0 ((i + 2 : Nat) : Int)
 | 0, k, h, _, _ => by omega
 | n + 1, k, h, hk, hki => by
  have hs := v.sz_eq;have hl := Q0.szs_len v.Items;simp only [Wt, Q9, Wm, Zs]
  by_cases hlt : k < i
  ·rw [if_pos (by omega), La hi, La (show k < v.Items.length by omega)];simp only [Lb];have hsz := Q0.szs_mem _ _ (Lp hi);rw [Qpf N _ _ (by omega) (by omega)];simp only [Lb]
   cases hal : Q4b v.Items[i] v.Items[k] with
   | true =>
    rw [if_pos rfl, if_pos ⟨k, Lk _, hlt, hk, _, _, La hi, La (by omega), hal⟩]
   | false =>
    rw [if_neg (by simp), Z1 _ (by omega)];have := Qtg (k0 := k0) hb hN hi i2 n (k + 2) (by omega) (by omega) (by omega);rw [show ((k : Int) + 2) = ((k + 2 : Nat) : Int) by push_cast; rfl, this]
    by_cases hx : ∃ j, k + 2 ≤ j ∧ j < i ∧ j % 2 = 0 ∧ AL v i j
    ·rw [if_pos hx];obtain ⟨j, j1, j2, j3, j4⟩ := hx;rw [if_pos ⟨j, by omega, j2, j3, j4⟩]
    rw [if_neg hx, if_neg]
    rintro ⟨j, j1, j2, j3, j4⟩
    by_cases hjk : j = k
    ·subst hjk;obtain ⟨x, y, x1, y1, z1⟩ := j4;rw [La hi] at x1;rw [La (by omega)] at y1;cases x1; cases y1;rw [hal] at z1; cases z1
    exact hx ⟨j, by omega, j2, j3, j4⟩
  rw [if_neg (by omega), Z1 _ (by omega), if_neg (by rintro ⟨j, j1, j2, _⟩; omega)]
  push_cast; rfl
open Classical in
theorem Qrq {N : Nat} {v : Q0} (hb : v.sz < 1000000000) (hN : v.sz < N) : ∀ (n i : Nat), v.Items.length - i < n → i % 2 = 0 → i ≤ v.Items.length + 2 →
  X6 N v n (i : Int) = some (if ∃ i' j, i ≤ i' ∧ i' % 2 = 0 ∧ i' < v.Items.length ∧ j < i' ∧ j % 2 = 0 ∧ AL v i' j then 16 else 0)
 | 0, i, h, _, _ => by omega
 | n + 1, i, h, hi, hle => by
  have hs := v.sz_eq;have hl := Q0.szs_len v.Items;simp only [X6, Q9, Wm, Qh]
  by_cases hlt : i < v.Items.length
  ·rw [if_pos (by omega)];have h1 := Qtg (N := N) (k0 := X6 N v n) hb hN hlt hi N 0 (by omega) (by omega) (by omega);rw [show ((0 : Nat) : Int) = 0 from rfl] at h1;rw [h1]
   by_cases hx : ∃ j, 0 ≤ j ∧ j < i ∧ j % 2 = 0 ∧ AL v i j
   ·rw [if_pos hx];obtain ⟨j, _, j2, j3, j4⟩ := hx;rw [if_pos ⟨i, j, Lk _, hi, hlt, j2, j3, j4⟩]
   rw [if_neg hx, Qrq hb hN n (i + 2) (by omega) (by omega) (by omega)]
   by_cases hy : ∃ i' j, i + 2 ≤ i' ∧ i' % 2 = 0 ∧ i' < v.Items.length ∧ j < i' ∧ j % 2 = 0 ∧ AL v i' j
   ·rw [if_pos hy];obtain ⟨i', j, a1, a2, a3⟩ := hy;rw [if_pos ⟨i', j, by omega, a2, a3⟩]
   rw [if_neg hy, if_neg]
   rintro ⟨i', j, a1, a2, a3, a4, a5, a6⟩
   by_cases he : i' = i
   ·subst he; exact hx ⟨j, by omega, a4, a5, a6⟩
   exact hy ⟨i', j, by omega, a2, a3, a4, a5, a6⟩
  rw [if_neg (by omega), if_neg]
  rintro ⟨i', j, a1, a2, a3, _⟩; omega
theorem Z0z (N : Nat) (v : Q0) (hb : v.sz < 1000000000) (hN : v.sz + 5 < N) : Q02 N v = some (Q77 v) := by
 have hs := v.sz_eq;have hl := Q0.szs_len v.Items;simp only [Q02, Q9, Q01, Q77]
 by_cases h : v.Kind ≠ 23
 ·rw [if_pos h, if_pos h]
 rw [if_neg h, if_neg h];exact Qrq hb (by omega) N 2 (by omega) (by omega) (by omega)
def Q9i (v : Q0) : Option Bool :=
 cond (Q35 .neq v.Text [])
 (some false)
 (cond (Q3 .eql v.Kind 24)
 (cond (Q3 .geq v.N' 1)
 (some (Q3 .leq v.N' 24))
 (some false))
 (cond (Q3 .neq v.N' 0)
 (some false)
 (cond (Q3 .eql v.Kind 25)
 (some (Q3 .eql ((Q0.rows v.Items).length : Int) 2))
 (cond (Q3 .eql v.Kind 23)
 (some (Q3 .eql ((((Q0.rows v.Items).length : Int) : Int).tmod 2) 0))
 (some true)))))
def Q0x (v : Q0) : Bool := (Q9i v).getD false
theorem Qgh (v : Q0) : Q9i v = some (Q0x v) := by
 unfold Q0x Q9i;simp only [Q9]
 repeat' split
 all_goals rfl
theorem Qu3 (N : Nat) (v : Q0) : Jr N v = some (Q0x v) := by
 rw [← Qgh v];unfold Q9i Jr;simp only [Q9]
 repeat' split
 all_goals rfl
mutual
noncomputable def Vv : Q0 → Int → Int
 | .mk k n t is, m => if k < 1 then 8 else if 25 < k then 8 else if k ≤ 21 then Vq ⟨k, n, t, is⟩ else if m = 0 then 14 else if Q0x ⟨k, n, t, is⟩ = false then 2 else if 1000 < is.length then 4 else Q0v is k n (m - 1) (Q77 ⟨k, n, t, is⟩)
noncomputable def Q0v : List Q0 → Int → Int → Int → Int → Int
 | [], _, _, _, e => e
 | x :: l, k, n, m, e => if k = 24 ∧ IntKind.u64.wrap x.Kind ≠ n then 8 else if Vv x m ≠ 0 then Vv x m else Q0v l k n m e
end
theorem Q7a (v : Q0) (m : Int) : Vv v m = if v.Kind < 1 then 8 else if 25 < v.Kind then 8 else if v.Kind ≤ 21 then Vq v else if m = 0 then 14 else if Q0x v = false then 2 else if 1000 < v.Items.length then 4 else Q0v v.Items v.Kind v.N' (m - 1) (Q77 v) := by
 cases v; simp only [Vv]
inductive Fine : Q0 → Prop
 | mk (v : Q0) (hn : okU v.N') (ht : v.Text.length ≤ 300000) (hi : ∀ x ∈ v.Items, Fine x) : Fine v
theorem Fine.num {v : Q0} (h : Fine v) : okU v.N' := by cases h; assumption
theorem Fine.text {v : Q0} (h : Fine v) : v.Text.length ≤ 300000 := by cases h; assumption
theorem Fine.items {v : Q0} (h : Fine v) : ∀ x ∈ v.Items, Fine x := by cases h; assumption
theorem Qid : ∀ (l : List Q0), Q0.txts l → ∀ x ∈ l, x.txt
 | v :: l, h, x, hx => by
  simp only [Q0.txts] at h
  rcases Mf.1 hx with rfl | hx
  ·exact h.1
  exact Qid l h.2 x hx
theorem Z00 (v : Q0) (hv : OkV v) (ht : v.txt) : Fine v := by
 induction v using Q0.ind with
 | h v ih =>
  rw [Q0.txt_eq] at ht;exact .mk v hv.num (by omega) (fun x hx => ih x hx (hv.items x hx) (Qid _ ht.2 x hx))
theorem Qjs {R : Q0 → Int → Option Int} {N : Nat} {v : Q0} {m : Int} (hb : v.sz < 1000000000) (hN : v.sz + 5 < N) (hm : 1 ≤ m ∧ m ≤ 32) (hR : ∀ y ∈ v.Items, R y (m - 1) = some (Vv y (m - 1))) : ∀ (n i : Nat), i ≤ v.Items.length → v.Items.length - i < n →
  Yo R N v m n (i : Int) = some (Q0v (v.Items.drop i) v.Kind v.N' (m - 1) (Q77 v))
 | 0, i, _, h => by omega
 | n + 1, i, hi, hn => by
  have hs := v.sz_eq;have hl := Q0.szs_len v.Items;simp only [Yo, Q9, Wm, J6, Q01, Qh, Zs, Z1 (m - 1) (show _ by omega), Z0z N v hb hN, Lb]
  by_cases h : i < v.Items.length
  ·rw [if_pos (by omega), La h, Ln h, Q0v];simp only [Lb, hR _ (Lp h)];rw [Z1 _ (by omega)];have ih := Qjs (N := N) hb hN hm hR n (i + 1) (by omega) (by omega);rw [show ((i : Int) + 1) = ((i + 1 : Nat) : Int) by push_cast; rfl, ih]
   by_cases h24 : v.Kind = 24
   ·rw [if_pos h24]
    by_cases hw : IntKind.u64.wrap v.Items[i].Kind ≠ v.N'
    ·rw [if_pos hw, if_pos ⟨h24, hw⟩]
    rw [if_neg hw, if_neg (show ¬ (v.Kind = 24 ∧ IntKind.u64.wrap v.Items[i].Kind ≠ v.N') from fun hh => hw hh.2)]
    by_cases hc : Vv v.Items[i] (m - 1) ≠ 0
    ·rw [if_pos hc, if_pos hc]
    rw [if_neg hc, if_neg hc]
   rw [if_neg h24, if_neg (show ¬ (v.Kind = 24 ∧ IntKind.u64.wrap v.Items[i].Kind ≠ v.N') from fun hh => h24 hh.1)]
   by_cases hc : Vv v.Items[i] (m - 1) ≠ 0
   ·rw [if_pos hc, if_pos hc]
   rw [if_neg hc, if_neg hc]
  rw [if_neg (by omega), Lm (by omega), Q0v]
theorem Qko : ∀ (N : Nat) (v : Q0) (m : Int), Fine v → v.sz + 300050 < N → v.sz < 1000000000 → 0 ≤ m → m ≤ 32 → V0 N v m = some (Vv v m)
 | 0, v, m, _, h, _, _, _ => by omega
 | N + 1, v, m, hv, h, h2, m0, m1 => by
  have hs := v.sz_eq;have hl := Q0.szs_len v.Items;rw [Q7a];have ht := hv.text;simp only [V0, Gq, Q9, Wm, Q9m, Q7c, J6, Qh, Qou N v hv.num (show v.Text.length < N by omega) (by omega), Qu3, Lb];split
  ·rfl
  rename_i h1
  by_cases h25 : v.Kind > 25
  ·rw [if_pos h25, if_pos (show 25 < v.Kind from h25)]
  rw [if_neg h25, if_neg (show ¬ 25 < v.Kind from h25)];split
  ·rfl
  by_cases hm0 : m = 0
  ·rw [if_pos hm0, if_pos hm0]
  rw [if_neg hm0, if_neg hm0]
  cases Q0x v with
  | false => rfl
  | true =>
   simp only [Mg, Lf, if_false, Me]
   by_cases hlen : 1000 < v.Items.length
   ·rw [if_pos (by omega), if_pos hlen]
   rw [if_neg (by omega), if_neg hlen];have := Qjs (R := V0 N) (N := N) (v := v) (m := m) h2 (by omega) ⟨by omega, m1⟩ (fun y hy => Qko N y (m - 1) (hv.items y hy) (by have := Q0.szs_mem _ y hy; omega) (by have := Q0.szs_mem _ y hy; omega) (by omega) (by omega)) N 0 (by omega) (by omega);exact this
def Q8m (m : Int) : Bool := decide (0 ≤ m ∧ m ≤ 32)
theorem Qxi (N : Nat) (m : Int) : Ui N m = some (Q8m m) := by
 unfold Ui Q8m;simp only [Q9, Qfb]
 by_cases h : 0 ≤ m
 ·rw [if_pos h];show some (decide (m ≤ 32)) = _;rw [Lc, decide_eq_decide]; omega
 rw [if_neg h, decide_eq_false (by omega)]
noncomputable def Vc (v : Q0) (m : Int) : Int := if Q8m m = false then 2 else Vv v m
theorem Qlk (N : Nat) (v : Q0) (m : Int) (hv : Fine v) (h : v.sz + 300050 < N) (h2 : v.sz < 1000000000) : J7 N v m = some (Vc v m) := by
 simp only [J7, Qxi, Lb, Q9, Vc]
 cases hr : Q8m m with
 | false => rfl
 | true =>
  have : 0 ≤ m ∧ m ≤ 32 := by simpa [Q8m] using hr
  simp only [Mg, Lf, if_false, Me];rw [Qko N v m hv h h2 this.1 this.2]; rfl
end
end Go.Av
namespace Go.Av
noncomputable section
open Go.Proofs
set_option maxRecDepth 100000
end
end Go.Av
namespace Go.Av
noncomputable section
open Go.Proofs
set_option maxRecDepth 100000
end
end Go.Av
namespace Go.Av
noncomputable section
open Go.Proofs
set_option maxRecDepth 100000
def Qxl (k : Int) : Bool := (Uy k).all (fun x => ofB x && (ofT x).1 == x && (ofT x).2.1 == k) && ((Uy k).zip (Uy k).tail).all (fun (x, y) => decide ((ofT x).2.2.1 ≤ (ofT y).2.2.1))
theorem Qv8 : ((List.range 26).all fun k => Qxl k) = true := by decide +kernel
theorem Qun (k : Int) : Qxl k = true := by
 by_cases h : k < 1 ∨ 25 < k
 ·simp [Qxl, Q88 k h]
 have := Lq.1 Qv8 k.toNat (by simp; omega)
 rwa [show ((k.toNat : Nat) : Int) = k by omega] at this
theorem Q7m (k x : Int) (h : x ∈ Uy k) : ofB x = true ∧ (ofS x).Code = x ∧ (ofS x).Kind = k := by
 have := Qun k;simp only [Qxl, Le, Lq] at this;have := this.1 x h;simp only [beq_iff_eq] at this;exact ⟨this.1.1, this.1.2, this.2⟩
end
end Go.Av
namespace Go.Av
noncomputable section
open Go.Proofs
set_option maxRecDepth 100000
end
end Go.Av
namespace Go.Av
noncomputable section
open Go.Proofs
set_option maxRecDepth 100000
theorem Z3o {c : Int} {v : Q0} (h : Q38 c v = true) : Qy9 c v = (Q30 (ofS c) v, 0) := by
 unfold Qy9;rw [if_neg (show ¬ (Vq v ≠ 0) by simp [(Q8v h).2.2.1]), h]; rfl
theorem Zib {code : Int} {v : Q0} {k : Nat} (hf : Q38 code v = true) (hk : k < (Q30 (ofS code) v).length) : Z23 code ((Q30 (ofS code) v).take k) = (Qu0, 0, 3) := by
 have hlen := Qb2 hf;obtain ⟨f1, f2, f3, f4⟩ := Q8v hf;obtain ⟨c1, c2, c3, c4, c5, c6, c7⟩ := Q23 f3;have hw := Qrd code f1;have hi := Q3s hw (by omega)
 have hw0 : ((Q30 (ofS code) v).take k).length = k := by rw [Mc]; omega
 unfold Z23;rw [f1, hi, if_neg (by simp), hw0];split
 ·rfl
 rename_i hkw
 cases hw.shape hi with
 | sized w hs hw' h12 hk2 hc =>
  simp only [hs, hw', if_true, Ms] at hlen hkw ⊢
  have hkw : w ≤ k := by omega
  have e1 : ((Q30 (ofS code) v).take k).take w = Q6w v.Text.length w := by
   rw [List.take_take, Bm hkw];unfold Q30;rw [hs, if_pos rfl, hw', Ms, Ch (Jo _ _)]
  have e3 : v.Text.length % 256 ^ w = v.Text.length := by
   apply Nl;unfold Q4w at f4;rw [if_neg hc, hs, if_pos rfl, hw'] at f4
   rcases h12 with rfl | rfl
   ·simp at f4; omega
   omega
  rw [e1, Qd1, e3, if_pos (by omega)]
 | wide hs hw' hk2 hc =>
  simp only [hs, hw', Lf, if_false] at hlen hkw;have : (16 : Int).toNat = 16 := rfl;omega
 | num w hs hw' hh ht hc hbb =>
  simp only [hs, hw', Lf, if_false] at hlen hkw;omega
end
end Go.Av
namespace Go.Av
noncomputable section
open Go.Proofs
set_option maxRecDepth 100000
end
end Go.Av
