/- The law. Part of a proof of a given statement: for every input the law returns true and the arguments read as before; no condition beyond the given row. -/
import Derived.Test.YtkemhhfbpniioaaGreatDoorLiftF2
import Derived.Test.YtkemhhfbpniioaaGreatDoorAvLift
import Derived.Test.YtkemhhfbpniioaaGreatDoorOks
namespace Go.Av
noncomputable section
open Go.Proofs
theorem Q9 {α : Type} (b : Bool) (x y : α) : cond b x y = if b = true then x else y := by cases b <;> rfl
@[simp] theorem Wm (x y : Int) : (Q8 .lss x y = true) = (x < y) := by simp [Q8]
@[simp] theorem Q9g (x y : Int) : (Q8 .leq x y = true) = (x ≤ y) := by simp [Q8]
@[simp] theorem Q47 (x y : Int) : (Q8 .gtr x y = true) = (x > y) := by simp [Q8]
@[simp] theorem Q9d (x y : Int) : (Q8 .geq x y = true) = (x ≥ y) := by simp [Q8]
@[simp] theorem V5 (x y : Int) : (Q8 .eql x y = true) = (x = y) := by simp [Q8]
@[simp] theorem J0 (x y : Int) : (Q8 .neq x y = true) = (x ≠ y) := by simp [Q8]
theorem Z5 (x : Int) (h : -9223372036854775808 ≤ x ∧ x ≤ 9223372036854775807) : IntKind.wrap .i64 x = x := IntWalk.i64_in x h
mutual
def Q0.sz : Q0 → Nat
 | .mk _ _ _ is => 1 + Q0.szs is
def Q0.szs : List Q0 → Nat
 | [] => 0
 | v :: l => v.sz + Q0.szs l
end
theorem Q0.sz_eq (v : Q0) : v.sz = 1 + Q0.szs v.Items := by cases v; simp [Q0.sz]
theorem Q0.szs_len : ∀ l : List Q0, l.length ≤ Q0.szs l
 | [] => by simp
 | v :: l => by
  have h1 := Q0.szs_len l
  have h2 := Q0.sz_eq v
  simp only [Q0.szs, List.length_cons]
  omega
theorem Q0.szs_mem : ∀ (l : List Q0) (v : Q0), v ∈ l → v.sz ≤ Q0.szs l
 | [], v, h => by cases h
 | u :: l, v, h => by
  simp only [Q0.szs]
  rcases List.mem_cons.1 h with rfl | h
  ·omega
  ·have := Q0.szs_mem l v h; omega
noncomputable instance : DecidableEq Q0 := fun a b => Classical.propDecidable (a = b)
theorem Yg (l : List Q0) : (Q0.rows l).length = l.length := by rw [Q0.rows_eq, Vg]
theorem X3 {α : Type} (l : List α) (i : Nat) : idx l (i : Int) = l[i]? := rfl
theorem Q6e {R : Q0 → Q0 → Option Bool} {N : Nat} {a b : Q0} (hlen : a.Items.length = b.Items.length) (hb : a.Items.length < 4611686018427387904)
  (hR : ∀ y ∈ a.Items, ∀ z, R y z = some (decide (y = z))) : ∀ (n i : Nat), i ≤ a.Items.length → a.Items.length - i < n →
  Zr R N a b n (i : Int) = some (decide (a.Items.drop i = b.Items.drop i))
 | 0, i, _, h => by omega
 | n + 1, i, h1, h2 => by
  simp only [Zr, Q9, Wm, Yg]
  by_cases hi : i < a.Items.length
  ·rw [if_pos (by omega), X3, X3, List.getElem?_eq_getElem hi, List.getElem?_eq_getElem (show i < b.Items.length by omega)]
   simp only [Option.bind_some, hR _ (List.getElem_mem hi)]
   rw [Z5 _ (by omega)]
   have ih := Q6e (N := N) hlen hb hR n (i + 1) (by omega) (by omega)
   rw [List.drop_eq_getElem_cons hi, List.drop_eq_getElem_cons (show i < b.Items.length by omega)]
   by_cases he : a.Items[i] = b.Items[i]
   ·rw [← he]; simp only [decide_true, Bool.not_true, Bool.false_eq_true, if_false, List.cons.injEq, true_and]
    exact_mod_cast ih
   ·have hne : ¬ (a.Items[i] :: List.drop (i + 1) a.Items = b.Items[i] :: List.drop (i + 1) b.Items) := fun e => he (List.cons.inj e).1
    simp only [he, decide_false, Bool.not_false, if_true]
    rw [decide_eq_false hne]
  ·rw [if_neg (by omega), List.drop_of_length_le (by omega), List.drop_of_length_le (by omega)]
   simp
theorem Jh (x y : List UInt8) : (Q3o .neq x y = true) = (x ≠ y) := by simp [Q3o]
theorem Q2v : ∀ (N : Nat) (a b : Q0), a.sz < N → a.sz < 1000000000 → Zi N a b = some (decide (a = b))
 | 0, a, b, h, _ => by have := a.sz_eq; omega
 | N + 1, a, b, h, h2 => by
  have hs := a.sz_eq
  have hl := Q0.szs_len a.Items
  simp only [Zi, Wy, Q9, J0, Jh, Yg]
  by_cases e1 : a.Kind = b.Kind
  ·by_cases e2 : a.N' = b.N'
   ·by_cases e3 : a.Text = b.Text
    ·by_cases e4 : a.Items.length = b.Items.length
     ·rw [if_neg (by simp [e1]), if_neg (by simp [e2]), if_neg (by simp [e3]), if_neg (by simp [e4])]
      have := Q6e (N := N) (R := Zi N) e4 (by omega) (fun y hy z => Q2v N y z (by have := Q0.szs_mem _ y hy; omega) (by have := Q0.szs_mem _ y hy; omega)) N 0 (by omega) (by omega)
      rw [show (0 : Int) = ((0 : Nat) : Int) from rfl, this]
      cases a; cases b; simp_all
     ·rw [if_neg (by simp [e1]), if_neg (by simp [e2]), if_neg (by simp [e3]), if_pos (by omega)]
      have : a ≠ b := fun e => e4 (by rw [e])
      simp [this]
    ·rw [if_neg (by simp [e1]), if_neg (by simp [e2]), if_pos (by simpa using e3)]
     have : a ≠ b := fun e => e3 (by rw [e])
     simp [this]
   ·rw [if_neg (by simp [e1]), if_pos (by simpa using e2)]
    have : a ≠ b := fun e => e2 (by rw [e])
    simp [this]
  ·rw [if_pos (by simpa using e1)]
   have : a ≠ b := fun e => e1 (by rw [e])
   simp [this]
end
end Go.Av
namespace Go.Av
noncomputable section
open Go.Proofs
theorem Q0.szs_app : ∀ l m : List Q0, Q0.szs (l ++ m) = Q0.szs l + Q0.szs m
 | [], m => by simp [Q0.szs]
 | v :: l, m => by simp [Q0.szs, Q0.szs_app l m]; omega
end
end Go.Av
namespace Go.Av
noncomputable section
open Go.Proofs
def Vr (k : Int) : Int × Bool :=
 if k = 2 then (1, false) else if k = 3 then (8, false) else if k = 4 then (16, false)
 else if k = 5 ∨ k = 11 ∨ k = 13 ∨ k = 16 then (32, false) else if k = 6 ∨ k = 12 ∨ k = 14 then (64, false)
 else if k = 7 then (8, true) else if k = 8 then (16, true) else if k = 9 then (32, true) else if k = 10 ∨ k = 17 then (64, true) else (0, false)
theorem Qla (N : Nat) (k : Int) : Vy N k = some (Vr k) := by
 by_cases h2 : k = 2
 ·subst h2; rfl
 by_cases h3 : k = 3
 ·subst h3; rfl
 by_cases h4 : k = 4
 ·subst h4; rfl
 by_cases h5 : k = 5
 ·subst h5; rfl
 by_cases h11 : k = 11
 ·subst h11; rfl
 by_cases h13 : k = 13
 ·subst h13; rfl
 by_cases h16 : k = 16
 ·subst h16; rfl
 by_cases h6 : k = 6
 ·subst h6; rfl
 by_cases h12 : k = 12
 ·subst h12; rfl
 by_cases h14 : k = 14
 ·subst h14; rfl
 by_cases h7 : k = 7
 ·subst h7; rfl
 by_cases h8 : k = 8
 ·subst h8; rfl
 by_cases h9 : k = 9
 ·subst h9; rfl
 by_cases h10 : k = 10
 ·subst h10; rfl
 by_cases h17 : k = 17
 ·subst h17; rfl
 unfold Vy Vr
 simp [Q9, h2, h3, h4, h5, h11, h13, h16, h6, h12, h14, h7, h8, h9, h10, h17]
def Ga (k : Int) : Bool := decide (k = 15 ∨ k = 18 ∨ k = 19 ∨ k = 20 ∨ k = 21)
theorem Qic (N : Nat) (k : Int) : V1 N k = some (Ga k) := by
 unfold V1 Ga
 simp only [Q9, V5]
 repeat' split
 all_goals simp_all
def Q9f (n : Int) : Bool := decide (n ≤ 1114111 ∧ ¬ (55296 ≤ n ∧ n ≤ 57343))
theorem Qdb (N : Nat) (n : Int) (h0 : 0 ≤ n) : Va N n = some (Q9f n) := by
 unfold Va Wh Q9f
 simp only [Q9, Q9g, Wm]
 by_cases h : n ≤ 1114111
 ·have hw : IntKind.wrap .i32 n = n := by
   simp only [IntKind.wrap, IntKind.bits, IntKind.signed]
   simp
   omega
  rw [if_pos h, hw]
  repeat' split
  all_goals (simp; omega)
 ·rw [if_neg h]
  simp [h]
def s64 (n : Int) : Int := if n < 9223372036854775808 then n else n - 18446744073709551616
theorem Qmy (n : Int) (h0 : 0 ≤ n) (h1 : n < 18446744073709551616) : IntKind.i64.wrap n = s64 n := by
 unfold s64
 split
 ·exact IntWalk.i64_in n (by omega)
 ·simp only [IntKind.wrap, IntKind.bits, IntKind.signed]
  simp
  omega
def Uz (n bits : Int) (signed : Bool) : Bool := if signed then decide (-(2 ^ (bits.toNat - 1)) ≤ s64 n ∧ s64 n < 2 ^ (bits.toNat - 1)) else decide (n < 2 ^ bits.toNat)
theorem Qa0 {m k : Nat} (h : m ≤ k) : (2 : Int) ^ m ≤ 2 ^ k := by
 have := Nat.pow_le_pow_right (n := 2) (by omega) h
 exact_mod_cast this
theorem two_pow_pos (m : Nat) : (1 : Int) ≤ 2 ^ m := by
 have := Nat.one_le_two_pow (n := m)
 exact_mod_cast this
theorem Qpi (k : Int) (h0 : 0 ≤ k) (h1 : k ≤ 63) : IntKind.i64.wrap (-1 * 2 ^ min (IntKind.i64.wrap k).toNat IntKind.i64.bits) = -(2 ^ k.toNat) := by
 have e1 : IntKind.i64.wrap k = k := IntWalk.i64_in _ (by omega)
 have e2 : min k.toNat IntKind.i64.bits = k.toNat := by simp [IntKind.bits]; omega
 have h2 := Qa0 (m := k.toNat) (k := 63) (by omega)
 have h3 := two_pow_pos k.toNat
 rw [e1, e2, IntWalk.i64_in _ (by omega)]
 omega
theorem Q8a (N : Nat) (n bits : Int) (signed : Bool) (h0 : 0 ≤ n) (h1 : n < 18446744073709551616) (hb0 : 0 ≤ bits) (hb1 : bits ≤ 64) (hs : signed = true → 1 ≤ bits) :
  Wc N n bits signed = some (Uz n bits signed) := by
 unfold Wc
 cases signed
 ·simp only [Q9, V5, Bool.false_eq_true, if_false, decide_eq_true_eq]
  by_cases h : bits = 64
  ·rw [if_pos h]
   subst h
   simp only [Uz, Bool.false_eq_true, if_false, Option.some.injEq]
   exact (decide_eq_true (by simpa using h1)).symm
  ·rw [if_neg h, if_pos hb0]
   simp only [Uz, Bool.false_eq_true, if_false, Option.some.injEq, Q8, Q1d]
   have e2 : min bits.toNat IntKind.u64.bits = bits.toNat := by simp [IntKind.bits]; omega
   rw [e2, Bool.eq_iff_iff]
   simp only [beq_iff_eq, decide_eq_true_eq]
   have h3 := two_pow_pos bits.toNat
   rw [Int.fdiv_eq_ediv_of_nonneg _ (by omega)]
   constructor
   ·intro h4
    have := Int.lt_ediv_add_one_mul_self n (show (0 : Int) < 2 ^ bits.toNat by omega)
    rw [h4] at this
    simpa using this
   ·intro h4
    exact Int.ediv_eq_zero_of_lt h0 h4
 ·have hs := hs rfl
  have e1 : IntKind.i64.wrap (bits - 1) = bits - 1 := IntWalk.i64_in _ (by omega)
  have e2 := Qpi (bits - 1) (by omega) (by omega)
  have e3 := Qmy n h0 h1
  have h2 := Qa0 (m := (bits - 1).toNat) (k := 63) (by omega)
  have h3 := two_pow_pos (bits - 1).toNat
  have e4 : (bits - 1).toNat = bits.toNat - 1 := by omega
  rw [e1] at e2
  simp only [Q9, Q9d, if_true, decide_eq_true_eq, Ut, e1, e2, e3]
  rw [if_pos (by omega), IntWalk.i64_in (-2 ^ (bits - 1).toNat + 1) (by omega), IntWalk.i64_in (0 - (-2 ^ (bits - 1).toNat + 1)) (by omega)]
  rw [e4] at h2 h3 ⊢
  split
  ·rename_i h
   simp only [Uz, if_true, Option.some.injEq, Q8, decide_eq_decide]
   omega
  ·rename_i h
   simp only [Uz, if_true, Option.some.injEq]
   exact (decide_eq_false (by omega)).symm
end
end Go.Av
namespace Go.Av
noncomputable section
def Q17 (s : List UInt8) : Nat := s.foldl (fun a b => a * 256 + b.toNat) 0
theorem Q5g (s : List UInt8) (b : UInt8) : Q17 (s ++ [b]) = Q17 s * 256 + b.toNat := by simp [Q17]
def Uc : Nat → Nat → List UInt8
 | _, 0 => []
 | n, w + 1 => Uc (n / 256) w ++ [UInt8.ofNat (n % 256)]
theorem X6 : ∀ (w n : Nat), (Uc n w).length = w
 | 0, _ => rfl
 | w + 1, n => by simp [Uc, X6 w]
theorem Q4g : ∀ (w n : Nat), Q17 (Uc n w) = n % 256 ^ w
 | 0, n => by simp [Uc, Q17, Nat.mod_one]
 | w + 1, n => by
  rw [Uc, Q5g, Q4g w, Nat.pow_succ, Nat.mul_comm (256 ^ w) 256, Nat.mod_mul]
  have : (UInt8.ofNat (n % 256)).toNat = n % 256 := by simp
  rw [this]; omega
theorem Qoq {α : Type} {P : List α → Prop} (h0 : P []) (h1 : ∀ s b, P s → P (s ++ [b])) (s : List α) : P s := by
 have h : ∀ t : List α, P t.reverse := by
  intro t
  induction t with
  | nil => exact h0
  | cons b t ih => rw [List.reverse_cons]; exact h1 _ _ ih
 have := h s.reverse
 rwa [List.reverse_reverse] at this
theorem Q5t : ∀ (s : List UInt8), Q17 s < 256 ^ s.length := by
 refine Qoq (by simp [Q17]) (fun s b ih => ?_)
 ·rw [Q5g, List.length_append, List.length_singleton, Nat.pow_succ]
  have := b.toNat_lt
  simp at this
  omega
theorem Qjm : ∀ (s : List UInt8), Uc (Q17 s) s.length = s := by
 refine Qoq rfl (fun s b ih => ?_)
 ·rw [Q5g, List.length_append, List.length_singleton, Uc]
  have hb := b.toNat_lt
  simp at hb
  rw [show (Q17 s * 256 + b.toNat) / 256 = Q17 s by omega, ih, show (Q17 s * 256 + b.toNat) % 256 = b.toNat by omega]
  simp
theorem Qfp : ∀ (w n : Nat), Uc (n % 256 ^ w) w = Uc n w
 | 0, n => rfl
 | w + 1, n => by
  have h := Qfp w (n / 256)
  rw [Uc, Uc, Nat.pow_succ, Nat.mul_comm (256 ^ w) 256, Nat.mod_mul]
  rw [show (n % 256 + 256 * (n / 256 % 256 ^ w)) / 256 = n / 256 % 256 ^ w by omega, h, show (n % 256 + 256 * (n / 256 % 256 ^ w)) % 256 = n % 256 by omega]
end
end Go.Av
namespace Go.Av
noncomputable section
open Go.Proofs
def inB (s : List UInt8) (i lo hi : Nat) : Bool := match s[i]? with
 | some b => decide (lo ≤ b.toNat ∧ b.toNat ≤ hi)
 | none => false
def cpN (s : List UInt8) : Nat := match s with
 | [] => 0
 | c :: _ => if c.toNat < 128 then 1
  else if 194 ≤ c.toNat ∧ c.toNat ≤ 223 then (if inB s 1 128 191 then 2 else 0)
  else if c.toNat = 224 then (if inB s 1 160 191 && inB s 2 128 191 then 3 else 0)
  else if c.toNat = 237 then (if inB s 1 128 159 && inB s 2 128 191 then 3 else 0)
  else if 225 ≤ c.toNat ∧ c.toNat ≤ 239 then (if inB s 1 128 191 && inB s 2 128 191 then 3 else 0)
  else if c.toNat = 240 then (if inB s 1 144 191 && inB s 2 128 191 && inB s 3 128 191 then 4 else 0)
  else if 241 ≤ c.toNat ∧ c.toNat ≤ 243 then (if inB s 1 128 191 && inB s 2 128 191 && inB s 3 128 191 then 4 else 0)
  else if c.toNat = 244 then (if inB s 1 128 143 && inB s 2 128 191 && inB s 3 128 191 then 4 else 0)
  else 0
def Q4i : Nat → List UInt8 → Bool
 | 0, s => s.isEmpty
 | n + 1, s => if s.isEmpty then true else match cpN s with
  | 0 => false
  | k + 1 => Q4i n (s.drop (k + 1))
def Wq (s : List UInt8) : Bool := Q4i s.length s
theorem Qd1 : ∀ (n m : Nat) (s : List UInt8), s.length ≤ n → s.length ≤ m → Q4i n s = Q4i m s
 | 0, 0, s, _, _ => rfl
 | 0, m + 1, s, h, _ => by
  have : s = [] := List.length_eq_zero_iff.1 (by omega)
  subst this; simp [Q4i]
 | n + 1, 0, s, _, h => by
  have : s = [] := List.length_eq_zero_iff.1 (by omega)
  subst this; simp [Q4i]
 | n + 1, m + 1, s, h1, h2 => by
  simp only [Q4i]
  cases s with
  | nil => rfl
  | cons c r =>
   simp only [List.isEmpty_cons, Bool.false_eq_true, if_false]
   split
   ·rfl
   ·exact Qd1 n m _ (by simp at h1 ⊢; omega) (by simp at h2 ⊢; omega)
theorem Qj8 : Wq [] = true := rfl
theorem Q2r (s : List UInt8) (hne : s ≠ []) (h : cpN s = 0) : Wq s = false := by
 cases s with
 | nil => exact absurd rfl hne
 | cons c r => unfold Wq; simp only [List.length_cons, Q4i, h]; rfl
theorem Q0r (s : List UInt8) (k : Nat) (h : cpN s = k + 1) : Wq s = Wq (s.drop (k + 1)) := by
 cases s with
 | nil => simp [cpN] at h
 | cons c r =>
  unfold Wq
  simp only [List.length_cons, Q4i, h, List.isEmpty_cons, Bool.false_eq_true, if_false]
  exact Qd1 _ _ _ (by simp) (by simp)
theorem Q42 : ∀ (k : Nat) (s : List UInt8), (∀ b ∈ s.take k, b < 128) → Wq s = Wq (s.drop k)
 | 0, s, _ => by simp
 | k + 1, [], _ => by simp
 | k + 1, c :: r, h => by
  have hc : c < 128 := h c (by simp)
  have h1 : cpN (c :: r) = 1 := by simp only [cpN]; rw [if_pos (by exact hc)]
  rw [Q0r (c :: r) 0 h1]
  simpa using Q42 k r (fun b hb => h b (by simp [hb]))
def Q27 (s : List UInt8) : Bool := s.all fun b => decide (b.toNat < 128)
def Q4a (k n : Int) : Bool := Uz n (Vr k).1 (Vr k).2 && (k != 16 || Q9f n)
def Qcb (k : Int) (t : List UInt8) : Int := if k = 20 then (if Wq t then 0 else 6) else if k = 21 then (if Q27 t then 0 else 6) else 0
def Xj (v : Q0) : Int :=
 if v.Kind < 1 ∨ 21 < v.Kind then 8
 else if Q4a v.Kind v.N' = false ∨ v.Items ≠ [] then 2
 else if Ga v.Kind = false then (if v.Text ≠ [] then 2 else 0)
 else if (v.Kind = 15 ∨ v.Kind = 18) ∧ v.Text.length ≠ 16 then 2
 else if 1048576 < v.Text.length then 4 else Qcb v.Kind v.Text
def Q2f (c : Qh) (v : Q0) : Bool :=
 if c.Code = 65 then decide (v.N' = 1) else if c.Sized then decide (c.Width = 4 ∨ v.Text.length ≤ 255)
 else if c.Width = 0 then decide (v.N' = 0) else if c.Width = 1 then Uz v.N' 8 (Vr c.Kind).2 else true
def Vi (code : Int) (v : Q0) : Bool := ofB code && decide ((ofS code).Kind = v.Kind) && decide (Xj v = 0) && Q2f (ofS code) v
def Jj (c : Qh) (v : Q0) : List UInt8 :=
 if c.Sized then Uc v.Text.length c.Width.toNat ++ v.Text else if c.Width = 16 then v.Text else Uc v.N'.toNat c.Width.toNat
def Qb8 (code : Int) (v : Q0) : List UInt8 × Int :=
 if Xj v ≠ 0 then ([], Xj v) else if Vi code v = false then ([], 2) else (Jj (ofS code) v, 0)
def Jk (c : Qh) (n : Int) : Int := if (Vr c.Kind).2 = true ∧ 0 < c.Width ∧ 2 ^ (8 * c.Width.toNat - 1) ≤ n then n + (18446744073709551616 - 2 ^ (8 * c.Width.toNat)) else n
def G9 : Q0 := ⟨0, 0, [], []⟩
def Ql5 (v : Q0) (n : Int) : Q0 × Int × Int := if Xj v = 0 then (v, n, 0) else (G9, 0, if Xj v = 2 then 5 else Xj v)
def Q94 (code : Int) (s : List UInt8) : Q0 × Int × Int :=
 if ofB code = false ∨ (ofS code).Items = true then (G9, 0, 8)
 else if (s.length : Int) < (ofS code).Width then (G9, 0, 3)
 else if (ofS code).Sized = true then
  if s.length - (ofS code).Width.toNat < Q17 (s.take (ofS code).Width.toNat) then (G9, 0, 3)
  else Ql5 ⟨(ofS code).Kind, 0, (s.drop (ofS code).Width.toNat).take (Q17 (s.take (ofS code).Width.toNat)), []⟩ ((ofS code).Width + Q17 (s.take (ofS code).Width.toNat))
 else if (ofS code).Width = 16 then Ql5 ⟨(ofS code).Kind, 0, s.take 16, []⟩ 16
 else if (ofS code).Code = 65 then Ql5 ⟨(ofS code).Kind, 1, [], []⟩ 0
 else Ql5 ⟨(ofS code).Kind, Jk (ofS code) (Q17 (s.take (ofS code).Width.toNat)), [], []⟩ (ofS code).Width
end
end Go.Av
namespace Go.Av
noncomputable section
open Go.Proofs
set_option maxRecDepth 100000
def Vq : List UInt8 → Nat
 | [] => 0
 | b :: r => b.toNat + 256 * Vq r
theorem Qgy : ∀ (s : List UInt8) (k : Nat), s.length ≤ k → Vq s < 256 ^ k
 | [], k, _ => Nat.pow_pos (by omega)
 | b :: r, 0, h => by simp at h
 | b :: r, k + 1, h => by
  have h1 := Qgy r k (by simpa using h)
  have h2 : b.toNat < 256 := b.toNat_lt
  rw [Vq, Nat.pow_succ]
  omega
theorem Q7c (a b : Nat) (n m : Nat) (ha : a < 2 ^ n) (hb : b < 2 ^ m) (hn : n + m ≤ 64) :
  IntKind.u64.wrap (((BitVec.ofInt IntKind.u64.bits (a : Int) ||| BitVec.ofInt IntKind.u64.bits (IntKind.u64.wrap ((b : Int) * 2 ^ min n IntKind.u64.bits))).toNat : Nat) : Int) = ((a + 2 ^ n * b : Nat) : Int) := by
 have h64 : IntKind.u64.bits = 64 := rfl
 have hw : ∀ z : Int, IntKind.u64.wrap z = z % 18446744073709551616 := fun z => by simp [IntKind.wrap, IntKind.bits, IntKind.signed]
 have hnn : min n 64 = n := by omega
 have hp : 2 ^ n * b < 2 ^ 64 := by
  calc 2 ^ n * b < 2 ^ n * 2 ^ m := Nat.mul_lt_mul_of_pos_left hb (Nat.two_pow_pos n)
   _ = 2 ^ (n + m) := (Nat.pow_add 2 n m).symm
   _ ≤ 2 ^ 64 := Nat.pow_le_pow_right (by omega) hn
 have ha64 : a < 2 ^ 64 := Nat.lt_of_lt_of_le ha (Nat.pow_le_pow_right (by omega) (by omega))
 have e1 : ((b : Int) * 2 ^ n) = ((2 ^ n * b : Nat) : Int) := by push_cast; exact Int.mul_comm _ _
 rw [h64, hnn, e1, hw, hw]
 have e2 : ((2 ^ n * b : Nat) : Int) % 18446744073709551616 = ((2 ^ n * b : Nat) : Int) := by
  rw [Int.emod_eq_of_lt (by omega) (by have : (2 : Nat) ^ 64 = 18446744073709551616 := rfl; omega)]
 rw [e2, BitVec.ofInt_natCast, BitVec.ofInt_natCast, BitVec.toNat_or, BitVec.toNat_ofNat, BitVec.toNat_ofNat, Nat.mod_eq_of_lt ha64, Nat.mod_eq_of_lt hp]
 have e3 : a ||| 2 ^ n * b = a + 2 ^ n * b := by
  have := Nat.shiftLeft_add_eq_or_of_lt ha b
  rw [Nat.shiftLeft_eq, Nat.mul_comm] at this
  rw [Nat.or_comm, ← this, Nat.add_comm]
 rw [e3]
 have e4 : a + 2 ^ n * b < 18446744073709551616 := by
  have hb2 : b + 1 ≤ 2 ^ m := hb
  have : 2 ^ n * (b + 1) ≤ 2 ^ n * 2 ^ m := Nat.mul_le_mul_left _ hb2
  rw [← Nat.pow_add] at this
  have h5 : 2 ^ (n + m) ≤ 2 ^ 64 := Nat.pow_le_pow_right (by omega) hn
  rw [Nat.mul_add, Nat.mul_one] at this
  have : (2 : Nat) ^ 64 = 18446744073709551616 := rfl
  omega
 rw [Int.emod_eq_of_lt (by omega) (by omega)]
theorem Qm5 (b : UInt8) : IntKind.u64.wrap ((b.toNat : Nat) : Int) = ((b.toNat : Nat) : Int) := by
 have := b.toNat_lt
 simp only [IntKind.wrap, IntKind.bits, IntKind.signed]
 simp
 omega
theorem Qpy (N : Nat) (b0 b1 b2 b3 b4 b5 b6 b7 : UInt8) (r : List UInt8) : Qk N (b0 :: b1 :: b2 :: b3 :: b4 :: b5 :: b6 :: b7 :: r) = some (Vq [b0, b1, b2, b3, b4, b5, b6, b7] : Nat) := by
 have l0 := b0.toNat_lt; have l1 := b1.toNat_lt; have l2 := b2.toNat_lt; have l3 := b3.toNat_lt
 have l4 := b4.toNat_lt; have l5 := b5.toNat_lt; have l6 := b6.toNat_lt; have l7 := b7.toNat_lt
 show some _ = some _
 simp only [orI, Ut, Qm5]
 have t8 : Int.toNat 8 = 8 := rfl
 have t16 : Int.toNat 16 = 16 := rfl
 have t24 : Int.toNat 24 = 24 := rfl
 have t32 : Int.toNat 32 = 32 := rfl
 have t40 : Int.toNat 40 = 40 := rfl
 have t48 : Int.toNat 48 = 48 := rfl
 have t56 : Int.toNat 56 = 56 := rfl
 rw [t8, t16, t24, t32, t40, t48, t56]
 rw [Q7c b0.toNat b1.toNat 8 8 l0 l1 (by omega)]
 rw [Q7c _ b2.toNat 16 8 (by omega) l2 (by omega)]
 rw [Q7c _ b3.toNat 24 8 (by omega) l3 (by omega)]
 rw [Q7c _ b4.toNat 32 8 (by omega) l4 (by omega)]
 rw [Q7c _ b5.toNat 40 8 (by omega) l5 (by omega)]
 rw [Q7c _ b6.toNat 48 8 (by omega) l6 (by omega)]
 rw [Q7c _ b7.toNat 56 8 (by omega) l7 (by omega)]
 simp only [Vq, Option.some.injEq]
 omega
theorem Gv (N : Nat) (s : List UInt8) (h : 8 ≤ s.length) : Qk N s = some ((Vq (s.take 8) : Nat) : Int) := by
 match s, h with
 | b0 :: b1 :: b2 :: b3 :: b4 :: b5 :: b6 :: b7 :: r, _ => exact Qpy N b0 b1 b2 b3 b4 b5 b6 b7 r
theorem Qdc : ∀ (s : List UInt8) (m : Nat), m = Vq (List.replicate s.length 128) → (Vq s &&& m = 0 ↔ ∀ b ∈ s, b < 128)
 | [], m, h => by subst h; simp [Vq]
 | b :: r, m, h => by
  have ih := Qdc r _ rfl
  have hb0 : ∀ n, n < 256 → (n &&& 128 = 0 ↔ n < 128) := by decide
  have hb : ∀ c : UInt8, c.toNat &&& 128 = 0 ↔ c < 128 := fun c => (hb0 c.toNat c.toNat_lt).trans Iff.rfl
  rw [List.length_cons, List.replicate_succ, Vq] at h
  generalize Vq (List.replicate r.length 128) = q at h ih
  have e1 : (128 : UInt8).toNat = 128 := rfl
  rw [e1] at h
  have key : ∀ z : Nat, z = 0 ↔ z % 2 ^ 8 = 0 ∧ z / 2 ^ 8 = 0 := fun z => by omega
  have hlt := b.toNat_lt
  rw [Vq, h, key, Nat.and_mod_two_pow, Nat.and_div_two_pow]
  have d1 : (b.toNat + 256 * Vq r) % 2 ^ 8 = b.toNat := by omega
  have d2 : (128 + 256 * q) % 2 ^ 8 = 128 := by omega
  have d3 : (b.toNat + 256 * Vq r) / 2 ^ 8 = Vq r := by omega
  have d4 : (128 + 256 * q) / 2 ^ 8 = q := by omega
  rw [d1, d2, d3, d4, hb, ih]
  simp
theorem Q0b (n : Nat) (h : n < 18446744073709551616) : IntKind.u64.wrap (n : Int) = n := by
 simp only [IntKind.wrap, IntKind.bits, IntKind.signed]
 simp; omega
theorem Q22 (a b : Nat) (ha : a < 18446744073709551616) (hb : b < 18446744073709551616) : Jw .u64 (a : Int) (b : Int) = ((a &&& b : Nat) : Int) := by
 have hl : a &&& b ≤ a := Nat.and_le_left
 have h64 : IntKind.u64.bits = 64 := rfl
 have p64 : (2 : Nat) ^ 64 = 18446744073709551616 := rfl
 simp only [Jw]
 rw [h64, BitVec.ofInt_natCast, BitVec.ofInt_natCast, BitVec.toNat_and, BitVec.toNat_ofNat, BitVec.toNat_ofNat, Nat.mod_eq_of_lt (by omega), Nat.mod_eq_of_lt (by omega), Q0b _ (by omega)]
theorem Q7k (a b : Nat) (ha : a < 18446744073709551616) (hb : b < 18446744073709551616) : orI .u64 (a : Int) (b : Int) = ((a ||| b : Nat) : Int) ∧ (a ||| b) < 18446744073709551616 := by
 have h64 : IntKind.u64.bits = 64 := rfl
 have p64 : (2 : Nat) ^ 64 = 18446744073709551616 := rfl
 have hl : a ||| b < 2 ^ 64 := Nat.or_lt_two_pow (by omega) (by omega)
 simp only [orI]
 rw [h64, BitVec.ofInt_natCast, BitVec.ofInt_natCast, BitVec.toNat_or, BitVec.toNat_ofNat, BitVec.toNat_ofNat, Nat.mod_eq_of_lt (by omega), Nat.mod_eq_of_lt (by omega), Q0b _ (by omega)]
 exact ⟨rfl, by omega⟩
theorem Qaq (a b m : Nat) : (a ||| b) &&& m = 0 ↔ a &&& m = 0 ∧ b &&& m = 0 := by
 rw [Nat.and_or_distrib_right]
 constructor
 ·intro h
  have h1 : a &&& m ≤ (a &&& m) ||| (b &&& m) := Nat.left_le_or
  have h2 : b &&& m ≤ (a &&& m) ||| (b &&& m) := Nat.right_le_or
  omega
 ·rintro ⟨h1, h2⟩; rw [h1, h2]; rfl
theorem Q3u (s : List UInt8) : Vq (s.take 8) < 18446744073709551616 := by
 have := Qgy (s.take 8) 8 (by simp; omega)
 simpa using this
def M8 : Nat := 9259542123273814144
theorem Qsz (s : List UInt8) (h : 8 ≤ s.length) : Vq (s.take 8) &&& M8 = 0 ↔ ∀ b ∈ s.take 8, b < 128 := Qdc _ _ (by rw [List.length_take, Nat.min_eq_left h]; rfl)
theorem Qqy (s : List UInt8) (h : 8 ≤ s.length) (hm : Vq (s.take 8) &&& M8 = 0) : Wq s = Wq (s.drop 8) := Q42 8 s ((Qsz s h).1 hm)
theorem Qt2 (s : List UInt8) : (Jw .u64 ((Vq (s.take 8) : Nat) : Int) 9259542123273814144 = 0) = (Vq (s.take 8) &&& M8 = 0) := by
 have h1 := Q3u s
 rw [show (9259542123273814144 : Int) = ((M8 : Nat) : Int) from rfl, Q22 _ _ h1 (by decide)]
 apply propext; omega
theorem Qt4 (s t : List UInt8) : (Jw .u64 (orI .u64 ((Vq (s.take 8) : Nat) : Int) ((Vq (t.take 8) : Nat) : Int)) 9259542123273814144 = 0) = (Vq (s.take 8) &&& M8 = 0 ∧ Vq (t.take 8) &&& M8 = 0) := by
 obtain ⟨h1, h2⟩ := Q7k _ _ (Q3u s) (Q3u t)
 rw [h1, show (9259542123273814144 : Int) = ((M8 : Nat) : Int) from rfl, Q22 _ _ h2 (by decide)]
 rw [← Qaq]
 apply propext; omega
theorem Qsq (s t u v : List UInt8) : (Jw .u64 (orI .u64 (orI .u64 ((Vq (s.take 8) : Nat) : Int) ((Vq (t.take 8) : Nat) : Int)) (orI .u64 ((Vq (u.take 8) : Nat) : Int) ((Vq (v.take 8) : Nat) : Int))) 9259542123273814144 = 0) =
  (Vq (s.take 8) &&& M8 = 0 ∧ Vq (t.take 8) &&& M8 = 0 ∧ Vq (u.take 8) &&& M8 = 0 ∧ Vq (v.take 8) &&& M8 = 0) := by
 obtain ⟨h1, h2⟩ := Q7k _ _ (Q3u s) (Q3u t)
 obtain ⟨h3, h4⟩ := Q7k _ _ (Q3u u) (Q3u v)
 obtain ⟨h5, h6⟩ := Q7k _ _ h2 h4
 rw [h1, h3, h5, show (9259542123273814144 : Int) = ((M8 : Nat) : Int) from rfl, Q22 _ _ h6 (by decide)]
 rw [show (Vq (s.take 8) &&& M8 = 0 ∧ Vq (t.take 8) &&& M8 = 0 ∧ Vq (u.take 8) &&& M8 = 0 ∧ Vq (v.take 8) &&& M8 = 0) = ((Vq (s.take 8) ||| Vq (t.take 8) ||| (Vq (u.take 8) ||| Vq (v.take 8))) &&& M8 = 0) by
  rw [Qaq, Qaq, Qaq]; apply propext; simp only [and_assoc]]
 apply propext; omega
theorem Qru (N : Nat) (k0 : List UInt8 → Option Bool) : ∀ (n : Nat) (s : List UInt8), s.length < n → (∀ t, t.length ≤ s.length → k0 t = some (Wq t)) → Zd N k0 n s = some (Wq s)
 | 0, s, h, _ => by omega
 | n + 1, s, h, hk => by
  simp only [Zd, Q9, Q47, V5, List.take_length, Nat.ble_eq, Bool.and_eq_true, Nat.le_refl, and_true]
  by_cases hl : (s.length : Int) > 32
  ·rw [if_pos hl, Gv N s (by omega)]
   simp only [Option.bind_some]
   rw [if_pos (by omega), Gv N _ (by rw [List.length_drop]; omega)]
   simp only [Option.bind_some]
   rw [if_pos (by omega), Gv N _ (by rw [List.length_drop]; omega)]
   simp only [Option.bind_some]
   rw [if_pos (by omega), Gv N _ (by rw [List.length_drop]; omega)]
   simp only [Option.bind_some, Qsq]
   split
   ·rename_i hm
    obtain ⟨m1, m2, m3, m4⟩ := hm
    rw [if_pos (by omega), Qru N k0 n (s.drop 32) (by rw [List.length_drop]; omega) (fun t ht => hk t (by rw [List.length_drop] at ht; omega))]
    have e1 := Qqy s (by omega) m1
    have e2 := Qqy (s.drop 8) (by rw [List.length_drop]; omega) m2
    rw [List.drop_drop] at e2
    have e3 := Qqy (s.drop 16) (by rw [List.length_drop]; omega) m3
    rw [List.drop_drop] at e3
    have e4 := Qqy (s.drop 24) (by rw [List.length_drop]; omega) m4
    rw [List.drop_drop] at e4
    rw [e1, e2, e3, e4]
   ·exact hk s (Nat.le_refl _)
  ·rw [if_neg hl]; exact hk s (Nat.le_refl _)
def Qc3 (n : Nat) : Nat := Go.Pinned.utf8FirstZ.getD n 0
theorem Qqc (n : Nat) (h : n < 256) : idx gtab0 (n : Int) = some (Qc3 n : Int) := by
 have hl : Go.Pinned.utf8FirstZ.length = 256 := by rfl
 rw [X3, gtab0, List.getElem?_map, Qc3, List.getD_eq_getElem?_getD, List.getElem?_eq_getElem (by omega)]
 rfl
def Qum (n : Nat) : Bool := (Qc3 n == 241 && (decide (n < 194) || decide (244 < n))) || (Qc3 n == 2 && decide (194 ≤ n) && decide (n ≤ 223)) || (Qc3 n == 19 && n == 224) || (Qc3 n == 3 && decide (225 ≤ n) && decide (n ≤ 239) && n != 237) || (Qc3 n == 35 && n == 237) ||
  (Qc3 n == 52 && n == 240) || (Qc3 n == 4 && decide (241 ≤ n) && decide (n ≤ 243)) || (Qc3 n == 68 && n == 244)
set_option maxRecDepth 100000 in
theorem Qq7 : ((List.range 256).all fun n => decide (n < 128) || Qum n) = true := by decide +kernel
theorem cls (n : Nat) (h : n < 256) (h2 : 128 ≤ n) : (Qc3 n = 241 ∧ (n < 194 ∨ 244 < n)) ∨ (Qc3 n = 2 ∧ 194 ≤ n ∧ n ≤ 223) ∨ (Qc3 n = 19 ∧ n = 224) ∨ (Qc3 n = 3 ∧ 225 ≤ n ∧ n ≤ 239 ∧ n ≠ 237) ∨ (Qc3 n = 35 ∧ n = 237) ∨
  (Qc3 n = 52 ∧ n = 240) ∨ (Qc3 n = 4 ∧ 241 ≤ n ∧ n ≤ 243) ∨ (Qc3 n = 68 ∧ n = 244) := by
 have := List.all_eq_true.1 Qq7 n (by simpa using h)
 simp only [Bool.or_eq_true, decide_eq_true_eq] at this
 rcases this with h3 | h3
 ·omega
 ·simp only [Qum, Bool.or_eq_true, Bool.and_eq_true, beq_iff_eq, decide_eq_true_eq, bne_iff_ne, ne_eq] at h3
  rcases h3 with ((((((h | h) | h) | h) | h) | h) | h) | h
  ·exact .inl h
  ·exact .inr (.inl ⟨h.1.1, h.1.2, h.2⟩)
  ·exact .inr (.inr (.inl h))
  ·exact .inr (.inr (.inr (.inl ⟨h.1.1.1, h.1.1.2, h.1.2, h.2⟩)))
  ·exact .inr (.inr (.inr (.inr (.inl h))))
  ·exact .inr (.inr (.inr (.inr (.inr (.inl h)))))
  ·exact .inr (.inr (.inr (.inr (.inr (.inr (.inl ⟨h.1.1, h.1.2, h.2⟩))))))
  ·exact .inr (.inr (.inr (.inr (.inr (.inr (.inr h))))))
theorem Qs7 (N n : Nat) (c : UInt8) (r : List UInt8) (hc : c.toNat < 128) (_hn : r.length < n) (hN : r.length < N) (ih : ∀ t, t.length ≤ r.length → Q3 N n t = some (Wq t)) :
  Q3 N (n + 1) (c :: r) = some (Wq (c :: r)) := by
 have hstep : Wq (c :: r) = Wq r := Q42 1 (c :: r) (fun b hb => by simp at hb; subst hb; exact hc)
 rw [hstep]
 simp only [Q3, Q9, Q47, V5, Wm, List.take_length, Nat.ble_eq, Bool.and_eq_true, Nat.le_refl, and_true]
 rw [if_pos (by simp only [List.length_cons]; omega), show idx (c :: r) 0 = some c from rfl]
 simp only [Option.bind_some]
 rw [if_pos (by omega), if_pos (by simp)]
 simp only [List.drop_one, List.tail_cons]
 by_cases h8 : (r.length : Int) > 8
 ·rw [if_pos h8, Gv N r (by omega)]
  simp only [Option.bind_some, Qt2]
  split
  ·rename_i hm
   rw [Qqy r (by omega) hm, if_pos (by omega)]
   split
   ·rename_i h16
    rw [Gv N _ (by omega)]
    simp only [Option.bind_some]
    rw [if_pos (by omega), Gv N _ (by simp only [List.length_drop] at h16 ⊢; omega)]
    simp only [Option.bind_some, Qt4]
    split
    ·rename_i hm2
     rw [if_pos (by omega), Qru N _ N _ (by simp only [List.length_drop]; omega) (fun t ht => ih t (by simp only [List.length_drop] at ht; omega))]
     rw [Qqy (r.drop 8) (by simp only [List.length_drop] at h16 ⊢; omega) hm2.1, Qqy ((r.drop 8).drop 8) (by simp only [List.length_drop] at h16 ⊢; omega) hm2.2, List.drop_drop (l := r.drop 8)]
    ·exact ih _ (by simp only [List.length_drop]; omega)
   ·exact ih _ (by simp only [List.length_drop]; omega)
  ·exact ih _ (Nat.le_refl _)
 ·rw [if_neg h8]; exact ih _ (Nat.le_refl _)
end
end Go.Av
namespace Go.Av
noncomputable section
open Go.Proofs
set_option maxRecDepth 100000
theorem Qhf {s : List UInt8} {i lo hi : Nat} {b : UInt8} (h : s[i]? = some b) (h1 : lo ≤ b.toNat) (h2 : b.toNat ≤ hi) : inB s i lo hi = true := by simp [inB, h, h1, h2]
theorem Q6w {s : List UInt8} {i lo hi : Nat} {b : UInt8} (h : s[i]? = some b) (h1 : ¬ (lo ≤ b.toNat ∧ b.toNat ≤ hi)) : inB s i lo hi = false := by simp only [inB, h, decide_eq_false h1]
theorem Qhq {s : List UInt8} {i lo hi : Nat} (h : s[i]? = none) : inB s i lo hi = false := by simp [inB, h]
theorem Qqb {X : List UInt8 → Option Bool} (c : UInt8) (r : List UInt8) (lo hi : Int) (lo' hi' : Nat) (e1 : lo = lo') (e2 : hi = hi') (hX : ∀ t, t.length ≤ r.length → X t = some (Wq t))
  (hcp : cpN (c :: r) = if inB (c :: r) 1 lo' hi' then 2 else 0) :
  (if ((c :: r).length : Int) < 2 then some false else (idx (c :: r) 1).bind fun b => if (b.toNat : Int) < lo then some false else (idx (c :: r) 1).bind fun b2 => if hi < (b2.toNat : Int) then some false else
   if 2 ≤ (c :: r).length then X ((c :: r).drop 2) else none) = some (Wq (c :: r)) := by
 subst e1 e2
 have bad : cpN (c :: r) = 0 → some false = some (Wq (c :: r)) := fun h => by rw [Q2r _ (by simp) h]
 match r, hX, hcp, bad with
 | [], hX, hcp, bad =>
  rw [if_pos (by simp)]
  exact bad (by rw [hcp, Qhq (by simp)]; rfl)
 | d :: t, hX, hcp, bad =>
  rw [if_neg (by simp only [List.length_cons]; omega), show idx (c :: d :: t) 1 = some d from rfl]
  simp only [Option.bind_some]
  by_cases h1 : (d.toNat : Int) < lo'
  ·rw [if_pos h1]; exact bad (by rw [hcp, Q6w (b := d) rfl (by omega)]; rfl)
  rw [if_neg h1]
  by_cases h2 : (hi' : Int) < d.toNat
  ·rw [if_pos h2]; exact bad (by rw [hcp, Q6w (b := d) rfl (by omega)]; rfl)
  rw [if_neg h2, if_pos (by simp)]
  have hc : cpN (c :: d :: t) = 2 := by rw [hcp, Qhf (b := d) rfl (by omega) (by omega)]; rfl
  rw [Q0r _ 1 hc]
  exact hX _ (by simp)
theorem Qei {X : List UInt8 → Option Bool} (c : UInt8) (r : List UInt8) (lo hi : Int) (lo' hi' : Nat) (e1 : lo = lo') (e2 : hi = hi') (hX : ∀ t, t.length ≤ r.length → X t = some (Wq t))
  (hcp : cpN (c :: r) = if inB (c :: r) 1 lo' hi' && inB (c :: r) 2 128 191 then 3 else 0) :
  (if ((c :: r).length : Int) < 3 then some false else (idx (c :: r) 1).bind fun b => if (b.toNat : Int) < lo then some false else (idx (c :: r) 1).bind fun b2 => if hi < (b2.toNat : Int) then some false else
   (idx (c :: r) 2).bind fun b3 => if (b3.toNat : Int) < 128 then some false else (idx (c :: r) 2).bind fun b4 => if 191 < (b4.toNat : Int) then some false else
   if 3 ≤ (c :: r).length then X ((c :: r).drop 3) else none) = some (Wq (c :: r)) := by
 subst e1 e2
 have bad : cpN (c :: r) = 0 → some false = some (Wq (c :: r)) := fun h => by rw [Q2r _ (by simp) h]
 match r, hX, hcp, bad with
 | [], hX, hcp, bad =>
  rw [if_pos (by simp)]
  exact bad (by rw [hcp, Qhq (by simp)]; rfl)
 | [d], hX, hcp, bad =>
  rw [if_pos (by simp)]
  exact bad (by rw [hcp, Qhq (i := 2) (by simp)]; simp)
 | d :: e :: t, hX, hcp, bad =>
  rw [if_neg (by simp only [List.length_cons]; omega), show idx (c :: d :: e :: t) 1 = some d from rfl, show idx (c :: d :: e :: t) 2 = some e from rfl]
  simp only [Option.bind_some]
  by_cases h1 : (d.toNat : Int) < lo'
  ·rw [if_pos h1]; exact bad (by rw [hcp, Q6w (b := d) (i := 1) rfl (by omega)]; rfl)
  rw [if_neg h1]
  by_cases h2 : (hi' : Int) < d.toNat
  ·rw [if_pos h2]; exact bad (by rw [hcp, Q6w (b := d) (i := 1) rfl (by omega)]; rfl)
  rw [if_neg h2]
  by_cases h3 : (e.toNat : Int) < 128
  ·rw [if_pos h3]; exact bad (by rw [hcp, Q6w (b := e) (i := 2) rfl (by omega)]; simp)
  rw [if_neg h3]
  by_cases h4 : (191 : Int) < e.toNat
  ·rw [if_pos h4]; exact bad (by rw [hcp, Q6w (b := e) (i := 2) rfl (by omega)]; simp)
  rw [if_neg h4, if_pos (by simp)]
  have hc : cpN (c :: d :: e :: t) = 3 := by rw [hcp, Qhf (b := d) (i := 1) rfl (by omega) (by omega), Qhf (b := e) (i := 2) rfl (by omega) (by omega)]; rfl
  rw [Q0r _ 2 hc]
  exact hX _ (by simp; omega)
theorem Qf4 {X : List UInt8 → Option Bool} (c : UInt8) (r : List UInt8) (lo hi : Int) (lo' hi' : Nat) (e1 : lo = lo') (e2 : hi = hi') (hX : ∀ t, t.length ≤ r.length → X t = some (Wq t))
  (hcp : cpN (c :: r) = if inB (c :: r) 1 lo' hi' && inB (c :: r) 2 128 191 && inB (c :: r) 3 128 191 then 4 else 0) :
  (if ((c :: r).length : Int) < 4 then some false else (idx (c :: r) 1).bind fun b => if (b.toNat : Int) < lo then some false else (idx (c :: r) 1).bind fun b2 => if hi < (b2.toNat : Int) then some false else
   (idx (c :: r) 2).bind fun b3 => if (b3.toNat : Int) < 128 then some false else (idx (c :: r) 2).bind fun b4 => if 191 < (b4.toNat : Int) then some false else
   (idx (c :: r) 3).bind fun b5 => if (b5.toNat : Int) < 128 then some false else (idx (c :: r) 3).bind fun b6 => if 191 < (b6.toNat : Int) then some false else
   if 4 ≤ (c :: r).length then X ((c :: r).drop 4) else none) = some (Wq (c :: r)) := by
 subst e1 e2
 have bad : cpN (c :: r) = 0 → some false = some (Wq (c :: r)) := fun h => by rw [Q2r _ (by simp) h]
 match r, hX, hcp, bad with
 | [], hX, hcp, bad =>
  rw [if_pos (by simp)]
  exact bad (by rw [hcp, Qhq (by simp)]; rfl)
 | [d], hX, hcp, bad =>
  rw [if_pos (by simp)]
  exact bad (by rw [hcp, Qhq (i := 2) (by simp)]; simp)
 | [d, e], hX, hcp, bad =>
  rw [if_pos (by simp)]
  exact bad (by rw [hcp, Qhq (i := 3) (by simp)]; simp)
 | d :: e :: f :: t, hX, hcp, bad =>
  rw [if_neg (by simp only [List.length_cons]; omega), show idx (c :: d :: e :: f :: t) 1 = some d from rfl, show idx (c :: d :: e :: f :: t) 2 = some e from rfl, show idx (c :: d :: e :: f :: t) 3 = some f from rfl]
  simp only [Option.bind_some]
  by_cases h1 : (d.toNat : Int) < lo'
  ·rw [if_pos h1]; exact bad (by rw [hcp, Q6w (b := d) (i := 1) rfl (by omega)]; rfl)
  rw [if_neg h1]
  by_cases h2 : (hi' : Int) < d.toNat
  ·rw [if_pos h2]; exact bad (by rw [hcp, Q6w (b := d) (i := 1) rfl (by omega)]; rfl)
  rw [if_neg h2]
  by_cases h3 : (e.toNat : Int) < 128
  ·rw [if_pos h3]; exact bad (by rw [hcp, Q6w (b := e) (i := 2) rfl (by omega)]; simp)
  rw [if_neg h3]
  by_cases h4 : (191 : Int) < e.toNat
  ·rw [if_pos h4]; exact bad (by rw [hcp, Q6w (b := e) (i := 2) rfl (by omega)]; simp)
  rw [if_neg h4]
  by_cases h5 : (f.toNat : Int) < 128
  ·rw [if_pos h5]; exact bad (by rw [hcp, Q6w (b := f) (i := 3) rfl (by omega)]; simp)
  rw [if_neg h5]
  by_cases h6 : (191 : Int) < f.toNat
  ·rw [if_pos h6]; exact bad (by rw [hcp, Q6w (b := f) (i := 3) rfl (by omega)]; simp)
  rw [if_neg h6, if_pos (by simp)]
  have hc : cpN (c :: d :: e :: f :: t) = 4 := by rw [hcp, Qhf (b := d) (i := 1) rfl (by omega) (by omega), Qhf (b := e) (i := 2) rfl (by omega) (by omega), Qhf (b := f) (i := 3) rfl (by omega) (by omega)]; rfl
  rw [Q0r _ 3 hc]
  exact hX _ (by simp; omega)
theorem Qr6 : ∀ (N n : Nat) (s : List UInt8), s.length < n → s.length < N → Q3 N n s = some (Wq s)
 | N, 0, s, h, _ => by omega
 | N, n + 1, [], h1, h2 => by simp [Q3, Q9, Qj8]
 | N, n + 1, c :: r, h1, h2 => by
  have h1 : r.length < n := by simp at h1; omega
  have h2 : r.length < N := by simp at h2; omega
  have ih : ∀ t : List UInt8, t.length ≤ r.length → Q3 N n t = some (Wq t) := fun t ht => Qr6 N n t (by omega) (by omega)
  by_cases hc : c.toNat < 128
  ·exact Qs7 N n c r hc h1 h2 ih
  have hlt := c.toNat_lt
  simp only [Q3, Q9, Q47, V5, Wm, List.take_length, Nat.ble_eq, Bool.and_eq_true, Nat.le_refl, and_true]
  rw [if_pos (by simp only [List.length_cons]; omega), show idx (c :: r) 0 = some c from rfl]
  simp only [Option.bind_some]
  rw [if_neg (by omega), Qqc _ hlt]
  simp only [Option.bind_some]
  rcases cls c.toNat hlt (by omega) with ⟨e, h⟩ | ⟨e, h⟩ | ⟨e, h⟩ | ⟨e, h⟩ | ⟨e, h⟩ | ⟨e, h⟩ | ⟨e, h⟩ | ⟨e, h⟩
  ·rw [e, show (idx gtab1 (Q1d .u8 ((241 : Nat) : Int) 4)) = some (0, 0) from by decide]
   simp only [Option.bind_some]
   rw [if_neg (by decide), if_neg (by decide), if_neg (by decide), Q2r _ (by simp) (by simp only [cpN]; rw [if_neg hc, if_neg (by omega), if_neg (by omega), if_neg (by omega), if_neg (by omega), if_neg (by omega), if_neg (by omega), if_neg (by omega)])]
  ·rw [e, show (idx gtab1 (Q1d .u8 ((2 : Nat) : Int) 4)) = some (128, 191) from by decide]
   simp only [Option.bind_some]
   rw [if_pos (by decide)]
   exact Qqb c r 128 191 128 191 rfl rfl ih (by simp only [cpN]; rw [if_neg hc, if_pos h])
  ·rw [e, show (idx gtab1 (Q1d .u8 ((19 : Nat) : Int) 4)) = some (160, 191) from by decide]
   simp only [Option.bind_some]
   rw [if_neg (by decide), if_pos (by decide)]
   exact Qei c r 160 191 160 191 rfl rfl ih (by simp only [cpN]; rw [if_neg hc, if_neg (by omega), if_pos h])
  ·rw [e, show (idx gtab1 (Q1d .u8 ((3 : Nat) : Int) 4)) = some (128, 191) from by decide]
   simp only [Option.bind_some]
   rw [if_neg (by decide), if_pos (by decide)]
   exact Qei c r 128 191 128 191 rfl rfl ih (by simp only [cpN]; rw [if_neg hc, if_neg (by omega), if_neg (by omega), if_neg (by omega), if_pos (by omega)])
  ·rw [e, show (idx gtab1 (Q1d .u8 ((35 : Nat) : Int) 4)) = some (128, 159) from by decide]
   simp only [Option.bind_some]
   rw [if_neg (by decide), if_pos (by decide)]
   exact Qei c r 128 159 128 159 rfl rfl ih (by simp only [cpN]; rw [if_neg hc, if_neg (by omega), if_neg (by omega), if_pos h])
  ·rw [e, show (idx gtab1 (Q1d .u8 ((52 : Nat) : Int) 4)) = some (144, 191) from by decide]
   simp only [Option.bind_some]
   rw [if_neg (by decide), if_neg (by decide), if_pos (by decide)]
   exact Qf4 c r 144 191 144 191 rfl rfl ih (by simp only [cpN]; rw [if_neg hc, if_neg (by omega), if_neg (by omega), if_neg (by omega), if_neg (by omega), if_pos h])
  ·rw [e, show (idx gtab1 (Q1d .u8 ((4 : Nat) : Int) 4)) = some (128, 191) from by decide]
   simp only [Option.bind_some]
   rw [if_neg (by decide), if_neg (by decide), if_pos (by decide)]
   exact Qf4 c r 128 191 128 191 rfl rfl ih (by simp only [cpN]; rw [if_neg hc, if_neg (by omega), if_neg (by omega), if_neg (by omega), if_neg (by omega), if_neg (by omega), if_pos h])
  ·rw [e, show (idx gtab1 (Q1d .u8 ((68 : Nat) : Int) 4)) = some (128, 143) from by decide]
   simp only [Option.bind_some]
   rw [if_neg (by decide), if_neg (by decide), if_pos (by decide)]
   exact Qf4 c r 128 143 128 143 rfl rfl ih (by simp only [cpN]; rw [if_neg hc, if_neg (by omega), if_neg (by omega), if_neg (by omega), if_neg (by omega), if_neg (by omega), if_neg (by omega), if_pos h])
theorem Q9a (N : Nat) (s : List UInt8) (h : s.length < N) : Xt N s = some (Wq s) := Qr6 N N s h h
end
end Go.Av
namespace Go.Av
noncomputable section
open Go.Proofs
set_option maxRecDepth 100000
theorem Q7h (s : List UInt8) (i : Nat) (hi : i < s.length) (h : s[i].toNat < 128) : Q27 (s.drop i) = Q27 (s.drop (i + 1)) := by
 rw [List.drop_eq_getElem_cons hi]
 simp only [Q27, List.all_cons, decide_eq_true h, Bool.true_and]
theorem Qlx (N : Nat) (v : Q0) (hb : v.Text.length < 4611686018427387904) : ∀ (n i : Nat), v.Text.length - i < n → i ≤ v.Text.length →
  V0 N v n (i : Int) = some (if Q27 (v.Text.drop i) then 0 else 6)
 | 0, i, h, _ => by omega
 | n + 1, i, h, hi => by
  simp only [V0, Q9, Wm, Q9d]
  by_cases h1 : i < v.Text.length
  ·rw [if_pos (by omega), X3, List.getElem?_eq_getElem h1]
   simp only [Option.bind_some]
   by_cases h2 : v.Text[i].toNat < 128
   ·rw [if_neg (by omega), Z5 _ (by omega), Q7h _ _ h1 h2]
    exact_mod_cast Qlx N v hb n (i + 1) (by omega) (by omega)
   ·rw [if_pos (by omega)]
    have : Q27 (v.Text.drop i) = false := by
     rw [List.drop_eq_getElem_cons h1]
     simp only [Q27, List.all_cons, decide_eq_false h2, Bool.false_and]
    simp [this]
  ·rw [if_neg (by omega), List.drop_of_length_le (by omega)]
   rfl
theorem Qpr (N : Nat) (v : Q0) (h : v.Text.length < N) (hb : v.Text.length < 4611686018427387904) : Xi N v = some (Qcb v.Kind v.Text) := by
 simp only [Xi, Q9, V5, Qcb]
 split
 ·rw [Q9a N _ h]
  simp only [Option.bind_some]
  cases Wq v.Text <;> rfl
 ·split
  ·have := Qlx N v hb N 0 (by omega) (by omega)
   simpa using this
  ·rfl
theorem Qqn (v : Q0) : (((Q0.rows v.Items).length : Int) ≠ 0) = (v.Items ≠ []) := by
 rw [Yg]
 apply propext
 cases v.Items <;> simp; omega
theorem Qls (k : Int) : 0 ≤ (Vr k).1 ∧ (Vr k).1 ≤ 64 ∧ ((Vr k).2 = true → 1 ≤ (Vr k).1) := by
 unfold Vr
 repeat' split
 all_goals simp
def okU (n : Int) : Prop := 0 ≤ n ∧ n < 18446744073709551616
theorem Qbx (N : Nat) (v : Q0) (hn : okU v.N') (h : v.Text.length < N) (hb : v.Text.length < 4611686018427387904) : V8 N v = some (Xj v) := by
 obtain ⟨b1, b2, b3⟩ := Qls v.Kind
 simp only [V8, Q9, V5, Wm, Q47, J0, Jh, Qla, Option.bind_some, Q8a N _ _ _ hn.1 hn.2 b1 b2 b3, Qdb N _ hn.1, Qic, Qpr N v h hb, Qqn]
 unfold Xj
 by_cases h1 : v.Kind < 1
 ·rw [if_pos h1, if_pos (.inl h1)]
 rw [if_neg h1]
 by_cases h2 : v.Kind > 21
 ·rw [if_pos h2, if_pos (.inr h2)]
 rw [if_neg h2, if_neg (show ¬ (v.Kind < 1 ∨ 21 < v.Kind) by omega)]
 unfold Q4a
 generalize Uz v.N' (Vr v.Kind).1 (Vr v.Kind).2 = fb
 cases fb
 ·simp
 simp only [Bool.not_true, Bool.false_eq_true, if_false, Bool.true_and]
 by_cases h16 : v.Kind = 16
 ·rw [if_pos h16]
  have e1 : (v.Kind != 16) = false := by simp [h16]
  have e2 : Ga v.Kind = false := by rw [h16]; rfl
  rw [e1, e2]
  simp only [Bool.false_or, Bool.not_false, if_true]
  cases Q9f v.N' with
  | false => simp
  | true =>
   simp only [Bool.not_true, Bool.false_eq_true, if_false]
   by_cases hi : v.Items = []
   ·simp only [hi, ne_eq, not_true_eq_false, if_false]
    simp only [Bool.true_eq_false, or_self, if_false]
    by_cases ht : v.Text = [] <;> simp [ht]
   ·simp [hi]
 ·rw [if_neg h16]
  have e1 : (v.Kind != 16) = true := by simp [h16]
  rw [e1]
  simp only [Bool.true_or, Bool.true_eq_false, false_or]
  have e3 : ((v.Text.length : Int) ≠ 16) = (v.Text.length ≠ 16) := by apply propext; omega
  have e4 : ((v.Text.length : Int) > 1048576) = (1048576 < v.Text.length) := by apply propext; omega
  simp only [e3, e4]
  by_cases hi : v.Items = []
  ·simp only [hi, ne_eq, not_true_eq_false, if_false]
   cases Ga v.Kind with
   | false => by_cases ht : v.Text = [] <;> simp [ht]
   | true =>
    simp only [Bool.not_true, Bool.false_eq_true, if_false, Bool.true_eq_false]
    by_cases h15 : v.Kind = 15
    ·simp only [h15, if_true, true_or, true_and]
     by_cases hl : v.Text.length = 16 <;> simp [hl]
    ·by_cases h18 : v.Kind = 18
     ·simp only [h18, if_true, or_true, true_and]
      by_cases hl : v.Text.length = 16 <;> simp [hl]
     ·simp only [h15, h18, if_false, or_self, false_and]
      split <;> rfl
  ·simp [hi]
theorem Qqd (N : Nat) (c : Qh) (v : Q0) (hn : okU v.N') : Uk N c v = some (Q2f c v) := by
 simp only [Uk, Q9, V5, Q2f, Qla, Option.bind_some]
 split
 ·rfl
 split
 ·split
  ·rename_i h; simp [h]
  ·rename_i h
   simp only [h, false_or, Option.some.injEq, Q8, decide_eq_decide]
   omega
 split
 ·rfl
 split
 ·rw [Q8a N _ _ _ hn.1 hn.2 (by omega) (by omega) (by intro _; omega)]; rfl
 ·rfl
theorem Qlg (N : Nat) (code : Int) (v : Q0) (hn : okU v.N') (h : v.Text.length < N) (hb : v.Text.length < 4611686018427387904) : Vz N code v = some (Vi code v) := by
 simp only [Vz, Yw, Q9, V5, Option.bind_some, Qbx N v hn h hb, Qqd N _ v hn, Vi]
 cases ofB code
 ·simp
 simp only [if_true, Bool.true_and]
 by_cases h1 : (ofS code).Kind = v.Kind
 ·rw [if_pos h1, decide_eq_true h1]
  by_cases h2 : Xj v = 0
  ·rw [if_pos h2, decide_eq_true h2]; simp
  ·rw [if_neg h2, decide_eq_false h2]; simp
 ·rw [if_neg h1, decide_eq_false h1]; simp
theorem Q65 (k : Int) : (X4 k).length ≤ 4 := by
 by_cases h : k < 1 ∨ 25 < k
 ·rw [Q0o k h]; simp
 ·have hall : ((List.range 26).all fun k => decide ((X4 k).length ≤ 4)) = true := by decide +kernel
  have := List.all_eq_true.1 hall k.toNat (by simp; omega)
  rw [show ((k.toNat : Nat) : Int) = k by omega] at this
  simpa using this
end
end Go.Av
namespace Go.Av
noncomputable section
open Go.Proofs
set_option maxRecDepth 100000
theorem Q5s : ∀ (w n : Nat), Uc n (w + 1) = UInt8.ofNat (n / 256 ^ w % 256) :: Uc n w
 | 0, n => by simp [Uc]
 | w + 1, n => by
  rw [Uc, Q5s w (n / 256), Uc, List.cons_append, Nat.div_div_eq_div_mul, Nat.pow_succ, Nat.mul_comm 256]
def Qqj (n : Nat) : Nat → List Int
 | 0 => []
 | w + 1 => ((n / 256 ^ w % 256 : Nat) : Int) :: Qqj n w
theorem Qfl (n : Nat) : ∀ w, (Qqj n w).map (fun n => UInt8.ofNat n.toNat) = Uc n w
 | 0 => rfl
 | w + 1 => by rw [Qqj, List.map_cons, Qfl n w, Q5s]; rfl
theorem Qpx (m : Nat) (x : Int) (t : List Int) : (List.replicate (m + 1) (0 : Int) ++ t).set m x = List.replicate m 0 ++ (x :: t) := by
 rw [List.replicate_succ', List.append_assoc, List.set_append_right _ _ (by simp)]
 simp
theorem Qr7 (x : Int) : IntKind.u8.wrap x = x % 256 := by simp [IntKind.wrap, IntKind.bits, IntKind.signed]
theorem Q8z (x : Int) : IntKind.u64.wrap x = x % 18446744073709551616 := by simp [IntKind.wrap, IntKind.bits, IntKind.signed]
theorem Qoy (N n w : Nat) (hn : n < 18446744073709551616) (hw : w ≤ 8) : ∀ (k i : Nat), i ≤ w → w - i < k → Vk N (n : Int) (w : Int) k (i : Int) (List.replicate (w - i) 0 ++ Qqj n i) = some (Uc n w)
 | 0, i, h, h2 => by omega
 | k + 1, i, h, h2 => by
  have e1 : ifB (decide ((16 : Int) < (w : Int))) (16 : Int) (w : Int) = w := by rw [decide_eq_false (by omega)]; rfl
  simp only [Vk, Q9, Wm, e1]
  by_cases hi : i < w
  ·rw [if_pos (by omega), if_pos (by omega)]
   have e2 : IntKind.i64.wrap (8 * (i : Int)) = ((8 * i : Nat) : Int) := by rw [Z5 _ (by omega)]; push_cast; rfl
   have e3 : IntKind.u64.wrap ((8 * i : Nat) : Int) = ((8 * i : Nat) : Int) := Q0b _ (by omega)
   have e4 : IntKind.i64.wrap (IntKind.i64.wrap ((w : Int) - 1) - (i : Int)) = ((w - i - 1 : Nat) : Int) := by
    rw [Z5 ((w : Int) - 1) (by omega), Z5 _ (by omega)]; omega
   rw [e2, e3, e4, if_pos (decide_eq_true (Int.natCast_nonneg _))]
   have hlen : (List.replicate (w - i) (0 : Int) ++ Qqj n i).length ≥ w - i := by simp
   rw [X3, List.getElem?_eq_getElem (by omega)]
   simp only [Option.bind_some]
   have e5 : IntKind.u8.wrap (Q1d .u64 (n : Int) ((8 * i : Nat) : Int)) = ((n / 256 ^ i % 256 : Nat) : Int) := by
    rw [Qr7]
    simp only [Q1d]
    have : min (((8 * i : Nat) : Int).toNat) IntKind.u64.bits = 8 * i := by simp [IntKind.bits]; omega
    rw [this, Int.fdiv_eq_ediv_of_nonneg _ (by have := two_pow_pos (8 * i); omega)]
    have e0 : (2 : Nat) ^ (8 * i) = 256 ^ i := Nat.pow_mul 2 8 i
    have e : ((2 : Int) ^ (8 * i)) = ((256 ^ i : Nat) : Int) := by rw [← e0]; push_cast; rfl
    rw [e]
    push_cast
    rfl
   rw [e5, show Int.toNat ((w - i - 1 : Nat) : Int) = w - i - 1 from rfl, Z5 _ (by omega)]
   obtain ⟨m, hm⟩ : ∃ m, w - i = m + 1 := ⟨w - i - 1, by omega⟩
   have h3 := Qoy N n w hn hw k (i + 1) (by omega) (by omega)
   rw [show w - (i + 1) = m by omega, Qqj] at h3
   rw [hm, Nat.add_sub_cancel, Qpx]
   exact_mod_cast h3
  ·rw [if_neg (by omega)]
   have : i = w := by omega
   subst this
   rw [Nat.sub_self, List.replicate_zero, List.nil_append, Qfl]
theorem Qep (N n w : Nat) (hn : n < 18446744073709551616) (hw : w ≤ 8) (hN : 10 < N) : Ur N (n : Int) (w : Int) = some (Uc n w) := by
 have e1 : ifB (decide ((16 : Int) < (w : Int))) (16 : Int) (w : Int) = w := by rw [decide_eq_false (by omega)]; rfl
 simp only [Ur, Q9, Q9g, e1]
 by_cases h0 : (w : Int) ≤ 0
 ·rw [if_pos h0]
  have : w = 0 := by omega
  subst this; rfl
 ·rw [if_neg h0, if_pos (by simp; omega)]
  have := Qoy N n w hn hw N 0 (by omega) (by omega)
  simpa [Qqj] using this
theorem Qlf (a b : Nat) (ha : a < 72057594037927936) (hb : b < 256) : orI .u64 (Ut .u64 (a : Int) 8) (IntKind.u64.wrap (b : Int)) = ((a * 256 + b : Nat) : Int) := by
 have e1 : Ut .u64 (a : Int) 8 = ((a * 256 : Nat) : Int) := by
  simp only [Ut]
  have : min (Int.toNat 8) IntKind.u64.bits = 8 := rfl
  rw [this, show ((a : Int) * 2 ^ 8) = ((a * 256 : Nat) : Int) by push_cast; rfl, Q0b _ (by omega)]
 rw [e1, Q0b b (by omega), (Q7k _ _ (by omega) (by omega)).1]
 have := Nat.shiftLeft_add_eq_or_of_lt (show b < 2 ^ 8 by omega) a
 rw [Nat.shiftLeft_eq] at this
 rw [← this]
theorem Qkf (s : List UInt8) (i : Nat) (hi : i < s.length) : Q17 (s.take (i + 1)) = Q17 (s.take i) * 256 + s[i].toNat := by
 rw [List.take_succ_eq_append_getElem hi, Q5g]
abbrev Qsm (s : List UInt8) : Prop := s.length < 4611686018427387904
end
end Go.Av
namespace Go.Av
noncomputable section
open Go.Proofs
set_option maxRecDepth 100000
def Qs6 (code : Int) (t : Int × Int × Int × Bool × Bool) : Bool :=
 decide (t.1 = code) && decide (1 ≤ t.2.1 ∧ t.2.1 ≤ 25) && (t.2.2.2.2 == decide (22 ≤ t.2.1)) &&
 (t.2.2.2.2 || (if t.2.2.2.1 then decide ((t.2.2.1 = 1 ∨ t.2.2.1 = 4) ∧ 19 ≤ t.2.1 ∧ t.2.1 ≤ 21 ∧ t.1 ≠ 65)
  else if t.2.2.1 = 16 then decide ((t.2.1 = 15 ∨ t.2.1 = 18) ∧ t.1 ≠ 65)
  else decide (Ga t.2.1 = false) && decide (t.2.2.1 = 0 ∨ t.2.2.1 = 1 ∨ t.2.2.1 = 2 ∨ t.2.2.1 = 4 ∨ t.2.2.1 = 8) &&
   decide (t.1 = 65 → t.2.2.1 = 0 ∧ t.2.1 = 2) && decide (t.2.2.1 = 1 → (Vr t.2.1).1 ≤ 8 → (Vr t.2.1).2 = false ∨ (Vr t.2.1).1 = 8) && decide (2 ≤ t.2.2.1 → (Vr t.2.1).1 = 8 * t.2.2.1)))
theorem Qjt : ((List.range 40).all fun k => Qs6 (Uj k) (Wb k)) = true := by decide +kernel
structure Well (code : Int) (c : Qh) : Prop where
 code : c.Code = code
 kind : 1 ≤ c.Kind ∧ c.Kind ≤ 25
 items : c.Items = decide (22 ≤ c.Kind)
 sized : c.Items = false → c.Sized = true → (c.Width = 1 ∨ c.Width = 4) ∧ 19 ≤ c.Kind ∧ c.Kind ≤ 21 ∧ c.Code ≠ 65
 wide : c.Items = false → c.Sized = false → c.Width = 16 → (c.Kind = 15 ∨ c.Kind = 18) ∧ c.Code ≠ 65
 num : c.Items = false → c.Sized = false → c.Width ≠ 16 → Ga c.Kind = false ∧ (c.Width = 0 ∨ c.Width = 1 ∨ c.Width = 2 ∨ c.Width = 4 ∨ c.Width = 8) ∧ (c.Code = 65 → c.Width = 0 ∧ c.Kind = 2) ∧ (2 ≤ c.Width → (Vr c.Kind).1 = 8 * c.Width)
theorem Q6q (code : Int) (h : ofB code = true) : Well code (ofS code) := by
 have h1 : bsI code < 40 ∧ Uj (bsI code) = code := by simpa [ofB] using h
 have hw := List.all_eq_true.1 Qjt (bsI code) (by simpa using h1.1)
 rw [h1.2] at hw
 have e : ofT code = Wb (bsI code) := by unfold ofT; rw [if_pos h]
 rw [← e] at hw
 have es : ofS code = ⟨(ofT code).1, (ofT code).2.1, (ofT code).2.2.1, (ofT code).2.2.2.1, (ofT code).2.2.2.2⟩ := rfl
 rw [es]
 generalize ofT code = t at hw
 obtain ⟨c, k, w, s, i⟩ := t
 simp only [Qs6, Bool.and_eq_true, decide_eq_true_eq, beq_iff_eq] at hw
 obtain ⟨⟨⟨h1, h2⟩, h3⟩, h4⟩ := hw
 refine ⟨h1, h2, h3, ?_, ?_, ?_⟩ <;> intro hi hs <;> simp only at hi hs
 ·rw [hi, hs] at h4
  simpa using h4
 ·intro hw16
  simp only at hw16
  rw [hi, hs, if_pos hw16] at h4
  simpa using h4
 ·intro hw16
  simp only at hw16
  rw [hi, hs, if_neg hw16] at h4
  simp only [Bool.false_or, Bool.and_eq_true, decide_eq_true_eq, Bool.false_eq_true, if_false] at h4
  exact ⟨h4.1.1.1.1, h4.1.1.1.2, h4.1.1.2, h4.2⟩
theorem Qak (code : Int) (h : ofB code = false) : ofS code = ⟨0, 0, 0, false, false⟩ := by
 unfold ofS ofT
 rw [h]; rfl
theorem Wx {v : Q0} (h : Xj v = 0) : 1 ≤ v.Kind ∧ v.Kind ≤ 21 ∧ Q4a v.Kind v.N' = true ∧ v.Items = [] ∧ (Ga v.Kind = false → v.Text = []) ∧ (v.Kind = 15 ∨ v.Kind = 18 → v.Text.length = 16) ∧ v.Text.length ≤ 1048576 := by
 unfold Xj at h
 split at h
 ·omega
 split at h
 ·omega
 rename_i h1 h2
 have hi : v.Items = [] := by
  apply Classical.byContradiction
  intro hn; exact h2 (.inr hn)
 have ho : Q4a v.Kind v.N' = true := by
  cases ho : Q4a v.Kind v.N' with
  | true => rfl
  | false => exact absurd (.inl ho) h2
 split at h
 ·split at h
  ·omega
  ·rename_i h3 h4
   have ht : v.Text = [] := by
    apply Classical.byContradiction
    intro hn; exact h4 hn
   refine ⟨by omega, by omega, ho, hi, fun _ => ht, fun hk => ?_, by rw [ht]; simp⟩
   rcases hk with hk | hk <;> rw [hk] at h3 <;> cases h3
 ·split at h
  ·omega
  split at h
  ·omega
  rename_i h3 h4 h5
  exact ⟨by omega, by omega, ho, hi, fun ht => absurd ht h3, fun hk => by
   apply Classical.byContradiction
   intro hn; exact h4 ⟨hk, hn⟩, by omega⟩
theorem Qdf {k n : Int} (h : Ga k = true) (hn : Q4a k n = true) (h0 : 0 ≤ n) : n = 0 := by
 unfold Ga at h
 simp only [decide_eq_true_eq] at h
 have hb : Vr k = (0, false) := by
  rcases h with rfl | rfl | rfl | rfl | rfl <;> rfl
 simp only [Q4a, Bool.and_eq_true, hb, Uz, Bool.false_eq_true, if_false, decide_eq_true_eq] at hn
 have := hn.1
 simp at this
 omega
theorem Ql9 {c : Qh} {n : Int} {w : Nat} (hw : c.Width = w) (h148 : w = 1 ∨ w = 2 ∨ w = 4 ∨ w = 8) (hn : okU n) (hf : Uz n (8 * w) (Vr c.Kind).2 = true) : Jk c ((n.toNat % 256 ^ w : Nat) : Int) = n := by
 obtain ⟨h0, h1⟩ := hn
 unfold Jk
 unfold Uz s64 at hf
 cases hs : (Vr c.Kind).2
 ·rw [hs] at hf
  simp only [Bool.false_eq_true, if_false, decide_eq_true_eq] at hf
  simp only [Bool.false_eq_true, false_and, if_false]
  rcases h148 with rfl | rfl | rfl | rfl <;> simp at hf ⊢ <;> omega
 ·rw [hs] at hf
  simp only [if_true, decide_eq_true_eq] at hf
  simp only [true_and, hw]
  rcases h148 with rfl | rfl | rfl | rfl <;> simp at hf ⊢ <;> split at hf <;> (try split) <;> omega
theorem Qdv {c : Qh} {n w : Nat} (hw : c.Width = w) (h148 : w = 1 ∨ w = 2 ∨ w = 4 ∨ w = 8) (hn : n < 256 ^ w) : okU (Jk c n) ∧ (Jk c n).toNat % 256 ^ w = n ∧ Uz (Jk c n) (8 * w) (Vr c.Kind).2 = true := by
 unfold Jk okU Uz s64
 cases hs : (Vr c.Kind).2
 ·simp only [Bool.false_eq_true, false_and, if_false]
  rcases h148 with rfl | rfl | rfl | rfl <;> simp at hn ⊢ <;> omega
 ·simp only [true_and, hw, if_true]
  rcases h148 with rfl | rfl | rfl | rfl <;> simp at hn ⊢ <;> split <;> refine ⟨by omega, by omega, ?_⟩ <;> (try split) <;> omega
end
end Go.Av
namespace Go.Av
noncomputable section
open Go.Proofs
set_option maxRecDepth 100000
theorem Gz {code : Int} {v : Q0} (h : Vi code v = true) : ofB code = true ∧ (ofS code).Kind = v.Kind ∧ Xj v = 0 ∧ Q2f (ofS code) v = true := by
 simp only [Vi, Bool.and_eq_true, decide_eq_true_eq] at h
 exact ⟨h.1.1.1, h.1.1.2, h.1.2, h.2⟩
theorem Qpp : okU 0 := ⟨by decide, by decide⟩
theorem Que : okU 1 := ⟨by decide, by decide⟩
inductive Qt1 (c : Qh) : Prop
 | sized (w : Nat) (hs : c.Sized = true) (hw : c.Width = w) (h : w = 1 ∨ w = 4) (hk : 19 ≤ c.Kind ∧ c.Kind ≤ 21) (hc : c.Code ≠ 65)
 | wide (hs : c.Sized = false) (hw : c.Width = 16) (hk : c.Kind = 15 ∨ c.Kind = 18) (hc : c.Code ≠ 65)
 | num (w : Nat) (hs : c.Sized = false) (hw : c.Width = w) (h : w = 0 ∨ w = 1 ∨ w = 2 ∨ w = 4 ∨ w = 8) (ht : Ga c.Kind = false) (hc : c.Code = 65 → w = 0 ∧ c.Kind = 2) (hb : 2 ≤ w → (Vr c.Kind).1 = 8 * w)
theorem Well.shape {code : Int} {c : Qh} (h : Well code c) (hi : c.Items = false) : Qt1 c := by
 cases hs : c.Sized with
 | true =>
  obtain ⟨h1, h2, h3, h4⟩ := h.sized hi hs
  rcases h1 with h1 | h1
  ·exact .sized 1 hs h1 (.inl rfl) ⟨h2, h3⟩ h4
  ·exact .sized 4 hs h1 (.inr rfl) ⟨h2, h3⟩ h4
 | false =>
  by_cases h16 : c.Width = 16
  ·obtain ⟨h1, h2⟩ := h.wide hi hs h16
   exact .wide hs h16 h1 h2
  ·obtain ⟨h1, h2, h3, h4⟩ := h.num hi hs h16
   have hw : c.Width = (c.Width.toNat : Nat) := by omega
   refine .num c.Width.toNat hs hw (by omega) h1 (fun hc => ?_) (fun hb => ?_)
   ·obtain ⟨q1, q2⟩ := h3 hc
    exact ⟨by omega, q2⟩
   ·have := h4 (by omega)
    omega
theorem Vn {code : Int} {c : Qh} (h : Well code c) (hk : c.Kind ≤ 21) : c.Items = false := by
 rw [h.items]
 exact decide_eq_false (by omega)
theorem Qb4 (n : Nat) (h : n < 4611686018427387904) : IntKind.u64.wrap (n : Int) = n := Q0b _ (by omega)
theorem Qnz (N : Nat) (c : Qh) (v : Q0) (w : Nat) (hw : c.Width = w) (h : w ≤ 8) (hl : v.Text.length ≤ 1048576) (hN : 10 < N) : Wa N ⟨c, v⟩ = some (Uc v.Text.length w ++ v.Text) := by
 simp only [Wa, Qb4 _ (show v.Text.length < 4611686018427387904 by omega), hw, Qep N _ w (show v.Text.length < 18446744073709551616 by omega) h hN, Option.bind_some, Q9]
 rw [if_pos (by simp [Nat.ble_eq, X6]; omega)]
theorem Qro (N : Nat) (c : Qh) (v : Q0) (w : Nat) (hw : c.Width = w) (h : w ≤ 8) (hn : okU v.N') (hN : 10 < N) : Zl N ⟨c, v⟩ = some (Uc v.N'.toNat w) := by
 have e : v.N' = ((v.N'.toNat : Nat) : Int) := by have := hn.1; omega
 have hlt : v.N'.toNat < 18446744073709551616 := by have := hn.2; have := hn.1; omega
 simp only [Zl]
 rw [e, hw, Qep N _ w hlt h hN]
 rfl
theorem Qrc (N : Nat) (code : Int) (v : Q0) (hn : okU v.N') (h : v.Text.length < N) (hb : v.Text.length < 4611686018427387904) (hN : 10 < N) : Jd N code v = some (Qb8 code v) := by
 simp only [Jd, Qbx N v hn h hb, Qlg N code v hn h hb, Yw, Option.bind_some, Q9, J0, Qb8]
 by_cases h1 : Xj v = 0
 ·rw [if_neg (show ¬ (Xj v ≠ 0) by simp [h1]), if_neg (show ¬ (Xj v ≠ 0) by simp [h1])]
  cases hf : Vi code v with
  | false => rfl
  | true =>
   obtain ⟨f1, f2, f3, f4⟩ := Gz hf
   obtain ⟨c1, c2, c3, c4, c5, c6, c7⟩ := Wx f3
   have hw := Q6q code f1
   have hi := Vn hw (by omega)
   simp only [Bool.not_true, Bool.false_eq_true, if_false, Bool.true_eq_false]
   generalize ofS code = c at *
   unfold Jj
   cases hw.shape hi with
   | sized w hs hw' h12 hk hc =>
    rw [hs, Qnz N c v w hw' (by omega) c7 hN, hw']
    simp
   | wide hs hw' hk hc =>
    rw [hs, hw']
    simp only [Bool.false_eq_true, if_false]
    rw [if_neg (by decide), if_neg (by decide), if_neg (by decide), if_neg (by decide), if_neg (by decide), if_pos (by decide)]
    rfl
   | num w hs hw' hh ht hc hbb =>
    rw [hs, Qro N c v w hw' (by omega) hn hN, hw']
    simp only [Bool.false_eq_true, if_false, Vl, Option.bind_some]
    rcases hh with rfl | rfl | rfl | rfl | rfl
    ·rw [if_pos (by decide), if_neg (by decide)]; rfl
    ·rw [if_neg (by decide), if_pos (by decide), if_neg (by decide)]; rfl
    ·rw [if_neg (by decide), if_neg (by decide), if_pos (by decide), if_neg (by decide)]; rfl
    ·rw [if_neg (by decide), if_neg (by decide), if_neg (by decide), if_pos (by decide), if_neg (by decide)]; rfl
    ·rw [if_neg (by decide), if_neg (by decide), if_neg (by decide), if_neg (by decide), if_pos (by decide), if_neg (by decide)]; rfl
 ·rw [if_pos h1, if_pos h1]
end
end Go.Av
namespace Go.Av
noncomputable section
open Go.Proofs
set_option maxRecDepth 100000
theorem Q0.ext' {v w : Q0} (h1 : v.Kind = w.Kind) (h2 : v.N' = w.N') (h3 : v.Text = w.Text) (h4 : v.Items = w.Items) : v = w := by
 cases v; cases w; simp_all
theorem Q82 {k : Int} (h : 19 ≤ k ∧ k ≤ 21) : Ga k = true := by
 unfold Ga; exact decide_eq_true (by omega)
theorem Qho {k : Int} (h : k = 15 ∨ k = 18) : Ga k = true := by
 unfold Ga; exact decide_eq_true (by omega)
theorem Q3e {code : Int} {v : Q0} (hf : Vi code v = true) : (Jj (ofS code) v).length = (ofS code).Width.toNat + (if (ofS code).Sized then v.Text.length else 0) := by
 obtain ⟨f1, f2, f3, f4⟩ := Gz hf
 obtain ⟨c1, c2, c3, c4, c5, c6, c7⟩ := Wx f3
 have hw := Q6q code f1
 have hi := Vn hw (by omega)
 unfold Jj
 cases hw.shape hi with
 | sized w hs hw' h12 hk hc => rw [hs]; simp [X6]
 | wide hs hw' hk hc =>
  rw [hs, hw']
  simp [c6 (by omega)]
 | num w hs hw' hh ht hc hbb =>
  rw [hs, hw']
  simp only [Bool.false_eq_true, if_false]
  rw [if_neg (by omega), X6]; rfl
theorem Qni {code : Int} {v : Q0} {w : Nat} (_hn : okU v.N') (hf : Vi code v = true) (hs : (ofS code).Sized = false) (hw' : (ofS code).Width = w) (hh : w = 1 ∨ w = 2 ∨ w = 4 ∨ w = 8) (h65 : (ofS code).Code ≠ 65)
  (hbb : 2 ≤ w → (Vr (ofS code).Kind).1 = 8 * w) : Uz v.N' (8 * w) (Vr (ofS code).Kind).2 = true := by
 obtain ⟨f1, f2, f3, f4⟩ := Gz hf
 obtain ⟨c1, c2, c3, c4, c5, c6, c7⟩ := Wx f3
 unfold Q2f at f4
 rw [if_neg h65, hs, hw'] at f4
 simp only [Bool.false_eq_true, if_false] at f4
 rw [if_neg (by omega)] at f4
 by_cases h1 : w = 1
 ·subst h1
  rw [if_pos (by decide)] at f4
  exact f4
 ·simp only [Q4a, Bool.and_eq_true] at c3
  have := c3.1
  rw [← f2, hbb (by omega)] at this
  exact this
theorem Qr1 {code : Int} {v : Q0} (hn : okU v.N') (hf : Vi code v = true) (s : List UInt8) : Q94 code (Jj (ofS code) v ++ s) = (v, ((Jj (ofS code) v).length : Int), 0) := by
 have hlen := Q3e hf
 obtain ⟨f1, f2, f3, f4⟩ := Gz hf
 obtain ⟨c1, c2, c3, c4, c5, c6, c7⟩ := Wx f3
 have hw := Q6q code f1
 have hi := Vn hw (by omega)
 have nf := fun w => Qni (w := w) hn hf
 unfold Q94
 rw [f1, hi, if_neg (by simp)]
 have hd : Jj (ofS code) v = Jj (ofS code) v := rfl
 unfold Jj at hd hlen ⊢
 cases hw.shape hi with
 | sized w hs hw' h12 hk hc =>
  simp only [hs, hw', if_true, Int.toNat_natCast, List.append_assoc]
  have hbl := X6 w v.Text.length
  have e1 : (Uc v.Text.length w ++ (v.Text ++ s)).take w = Uc v.Text.length w := List.take_left' hbl
  have e2 : (Uc v.Text.length w ++ (v.Text ++ s)).drop w = v.Text ++ s := List.drop_left' hbl
  have htx : Ga v.Kind = true := Q82 (by omega)
  have hn0 := Qdf htx c3 hn.1
  have e3 : v.Text.length % 256 ^ w = v.Text.length := by
   apply Nat.mod_eq_of_lt
   unfold Q2f at f4
   rw [if_neg hc, hs, if_pos rfl, hw'] at f4
   rcases h12 with rfl | rfl
   ·simp at f4; omega
   ·omega
  rw [e1, e2, Q4g, e3, List.take_left' rfl]
  rw [if_neg (by simp [hbl]; omega), if_neg (by simp [hbl])]
  have ev : (⟨(ofS code).Kind, 0, v.Text, []⟩ : Q0) = v := Q0.ext' f2 hn0.symm rfl c4.symm
  rw [ev, Ql5, if_pos f3]
  simp [hbl]
 | wide hs hw' hk hc =>
  simp only [hs, hw', Bool.false_eq_true, if_false, if_true]
  have h16 := c6 (by omega)
  have htx : Ga v.Kind = true := Qho (by omega)
  have hn0 := Qdf htx c3 hn.1
  rw [if_neg (by simp [h16]; omega), List.take_left' h16]
  have ev : (⟨(ofS code).Kind, 0, v.Text, []⟩ : Q0) = v := Q0.ext' f2 hn0.symm rfl c4.symm
  rw [ev, Ql5, if_pos f3]
  simp [h16]
 | num w hs hw' hh ht hc hbb =>
  simp only [hs, hw', Bool.false_eq_true, if_false, Int.toNat_natCast]
  have h16 : ¬ ((w : Int) = 16) := by omega
  have hbl := X6 w v.N'.toNat
  have ht0 := c5 (by rw [← f2]; exact ht)
  simp only [h16, if_false]
  rw [if_neg (by simp [hbl]; omega)]
  by_cases h65 : (ofS code).Code = 65
  ·obtain ⟨rfl, hk2⟩ := hc h65
   rw [if_pos h65]
   have hn1 : v.N' = 1 := by
    unfold Q2f at f4
    rw [if_pos h65] at f4
    simpa using f4
   have ev : (⟨(ofS code).Kind, 1, [], []⟩ : Q0) = v := Q0.ext' f2 hn1.symm ht0.symm c4.symm
   rw [ev, Ql5, if_pos f3]
   simp [hbl]
  ·rw [if_neg h65, List.take_left' hbl, Q4g]
   have e : Jk (ofS code) ((v.N'.toNat % 256 ^ w : Nat) : Int) = v.N' := by
    rcases hh with rfl | hh
    ·unfold Q2f at f4
     rw [if_neg h65, hs, hw'] at f4
     simp at f4
     unfold Jk
     rw [if_neg (by omega), f4]; rfl
    ·exact Ql9 hw' hh hn (nf w hs hw' hh h65 hbb)
   rw [e]
   have ev : (⟨(ofS code).Kind, v.N', [], []⟩ : Q0) = v := Q0.ext' f2 rfl ht0.symm c4.symm
   rw [ev, Ql5, if_pos f3]
   simp [hbl]
end
end Go.Av
namespace Go.Av
noncomputable section
open Go.Proofs
set_option maxRecDepth 100000
theorem Qgp {v x : Q0} {n m : Int} (h : Ql5 v n = (x, m, 0)) : Xj v = 0 ∧ x = v ∧ m = n := by
 unfold Ql5 at h
 split at h
 ·rename_i h0
  cases h
  exact ⟨h0, rfl, rfl⟩
 ·rename_i h0
  simp only [Prod.mk.injEq] at h
  split at h <;> omega
theorem reads {code : Int} {s : List UInt8} {x : Q0} {n : Int} (hs : Qsm s) (h : Q94 code s = (x, n, 0)) : 0 ≤ n ∧ n ≤ s.length ∧ okU x.N' ∧ x.Text.length ≤ s.length ∧ Xj x = 0 ∧ Vi code x = true ∧ Jj (ofS code) x = s.take n.toNat := by
 unfold Q94 at h
 split at h
 ·cases h
 rename_i h1
 have hb : ofB code = true := by
  cases hb : ofB code with
  | true => rfl
  | false => exact absurd (.inl hb) h1
 have hi : (ofS code).Items = false := by
  cases hi : (ofS code).Items with
  | false => rfl
  | true => exact absurd (.inr hi) h1
 have hw := Q6q code hb
 split at h
 ·cases h
 rename_i h2
 have fit : ∀ v : Q0, v.Kind = (ofS code).Kind → Xj v = 0 → Q2f (ofS code) v = true → Vi code v = true := fun v q1 q2 q3 => by
  simp only [Vi, hb, q1, q2, q3, decide_true, Bool.and_self]
 have hd : ∀ v, Jj (ofS code) v = Jj (ofS code) v := fun _ => rfl
 unfold Qsm at hs
 cases hw.shape hi with
 | sized w hsz hw' h12 hk hc =>
  simp only [hsz, hw', if_true, Int.toNat_natCast] at h
  split at h
  ·cases h
  rename_i h3
  obtain ⟨q1, rfl, rfl⟩ := Qgp h
  have hlw : w ≤ s.length := by omega
  have hmlt := Q5t (s.take w)
  rw [List.length_take, Nat.min_eq_left hlw] at hmlt
  have hbn := Qjm (s.take w)
  rw [List.length_take, Nat.min_eq_left hlw] at hbn
  generalize hm : Q17 (s.take w) = m at *
  have hlen : ((s.drop w).take m).length = m := by rw [List.length_take, List.length_drop]; omega
  refine ⟨by omega, by omega, Qpp, by simp only [hlen]; omega, q1, fit _ rfl q1 ?_, ?_⟩
  ·unfold Q2f
   rw [if_neg hc, hsz, if_pos rfl, hw']
   rcases h12 with rfl | rfl
   ·simp only [hlen]
    simp at hmlt
    exact decide_eq_true (.inr (by omega))
   ·exact decide_eq_true (.inl rfl)
  ·unfold Jj
   simp only [hsz, if_true, hw', Int.toNat_natCast, hlen, hbn]
   rw [show ((w : Int) + (m : Int)).toNat = w + m by omega, List.take_add]
 | wide hsz hw' hk hc =>
  simp only [hsz, hw', Bool.false_eq_true, if_false, if_true] at h
  obtain ⟨q1, rfl, rfl⟩ := Qgp h
  refine ⟨by omega, by omega, Qpp, by simp only [List.length_take]; omega, q1, fit _ rfl q1 ?_, ?_⟩
  ·unfold Q2f
   rw [if_neg hc, hsz, hw']; rfl
  ·unfold Jj
   simp only [hsz, hw', Bool.false_eq_true, if_false, if_true]
   rfl
 | num w hsz hw' hh ht hc hbb =>
  simp only [hsz, hw', Bool.false_eq_true, if_false, Int.toNat_natCast] at h
  rw [if_neg (show ¬ ((w : Int) = 16) by omega)] at h
  split at h
  ·rename_i h65
   obtain ⟨rfl, hk2⟩ := hc h65
   obtain ⟨q1, rfl, rfl⟩ := Qgp h
   refine ⟨by omega, by omega, Que, by simp, q1, fit _ rfl q1 ?_, ?_⟩
   ·unfold Q2f
    rw [if_pos h65]; rfl
   ·unfold Jj
    simp only [hsz, hw', Bool.false_eq_true, if_false]
    rfl
  ·rename_i h65
   obtain ⟨q1, rfl, rfl⟩ := Qgp h
   have hlw : w ≤ s.length := by omega
   have hlt := Q5t (s.take w)
   have hbn := Qjm (s.take w)
   rw [List.length_take, Nat.min_eq_left hlw] at hlt hbn
   rcases hh with rfl | hh
   ·have e0 : Jk (ofS code) (Q17 (s.take 0) : Nat) = 0 := by
     unfold Jk
     rw [if_neg (by omega)]; rfl
    rw [e0] at q1 ⊢
    refine ⟨by omega, by omega, Qpp, by simp, q1, fit _ rfl q1 ?_, ?_⟩
    ·unfold Q2f
     rw [if_neg h65, hsz, hw']; rfl
    ·unfold Jj
     simp only [hsz, hw', Bool.false_eq_true, if_false]
     rfl
   ·obtain ⟨w1, w2, w3⟩ := Qdv hw' hh hlt
    refine ⟨by omega, by omega, w1, by simp, q1, fit _ rfl q1 ?_, ?_⟩
    ·unfold Q2f
     rw [if_neg h65, hsz, hw']
     simp only [Bool.false_eq_true, if_false]
     rw [if_neg (by omega)]
     split
     ·rename_i h1
      have : w = 1 := by omega
      subst this
      exact w3
     ·rfl
    ·unfold Jj
     simp only [hsz, hw', Bool.false_eq_true, if_false, Int.toNat_natCast]
     rw [if_neg (by omega), ← Qfp, w2, hbn]
end
end Go.Av
namespace Go.Av
noncomputable section
open Go.Proofs
set_option maxRecDepth 100000
def refTab : List Qh := (Xf 0).getD []
theorem Qca (N : Nat) : Xf N = some refTab := rfl
theorem Q35 : refTab.length = 40 := rfl
def Qs5 (c : Qh) : Int × Int × Int × Bool × Bool := (c.Code, c.Kind, c.Width, c.Sized, c.Items)
theorem Qo0 {c d : Qh} (h : Qs5 c = Qs5 d) : c = d := by
 cases c; cases d
 simp only [Qs5, Prod.mk.injEq] at h
 simp [h]
def Qst : Option Qh → Qh × Bool
 | some c => (c, true)
 | none => (⟨0, 0, 0, false, false⟩, false)
theorem Qfv (N : Nat) (code : Int) (l : List Qh) (hl : l.length < 1000) : ∀ (n i : Nat), i ≤ l.length → l.length - i < n → Xb N code l n (i : Int) = some (Qst ((l.drop i).find? (fun c => decide (c.Code = code))))
 | 0, i, _, h => by omega
 | n + 1, i, hi, hn => by
  simp only [Xb, Q9, Wm, V5, Vg, X3]
  by_cases h : i < l.length
  ·rw [if_pos (by omega), List.getElem?_eq_getElem h, List.drop_eq_getElem_cons h, List.find?_cons]
   simp only [Option.bind_some]
   by_cases hc : l[i].Code = code
   ·rw [if_pos hc, decide_eq_true hc]; rfl
   ·rw [if_neg hc, decide_eq_false hc, Z5 _ (by omega)]
    exact_mod_cast Qfv N code l hl n (i + 1) (by omega) (by omega)
  ·rw [if_neg (by omega), List.drop_of_length_le (by omega)]; rfl
def Qu5 (n : Nat) : Bool := decide ((Qs5 (Qst (refTab.find? (fun c => decide (c.Code = (n : Int))))).1, (Qst (refTab.find? (fun c => decide (c.Code = (n : Int))))).2) = (Qs5 (ofS n), ofB n))
theorem Qn1 : ((List.range 256).all Qu5) = true := by decide +kernel
theorem Q31 {code : Int} (h : ofB code = true) : 0 ≤ code ∧ code < 256 := by
 have h1 : bsI code < 40 ∧ Uj (bsI code) = code := by simpa [ofB] using h
 have hall : ((List.range 40).all fun k => decide (0 ≤ Uj k ∧ Uj k < 256)) = true := by decide +kernel
 have := List.all_eq_true.1 hall (bsI code) (by simpa using h1.1)
 rw [h1.2] at this
 simpa using this
theorem Qlu : (refTab.all fun c => decide (0 ≤ c.Code ∧ c.Code < 256)) = true := by decide +kernel
theorem Q3a (N : Nat) (code : Int) (hN : 50 < N) : Zo N code = some (ofS code, ofB code) := by
 simp only [Zo, Qca, Option.bind_some]
 have := Qfv N code refTab (by rw [Q35]; omega) N 0 (by omega) (by rw [Q35]; omega)
 rw [show ((0 : Nat) : Int) = 0 from rfl] at this
 rw [this, List.drop_zero, Option.some.injEq]
 by_cases h : 0 ≤ code ∧ code < 256
 ·have h1 := List.all_eq_true.1 Qn1 code.toNat (by simp; omega)
  simp only [Qu5, show ((code.toNat : Nat) : Int) = code by omega, decide_eq_true_eq, Prod.mk.injEq] at h1
  exact Prod.ext (Qo0 h1.1) h1.2
 ·have hb : ofB code = false := by
   cases hb : ofB code with
   | false => rfl
   | true => exact absurd (Q31 hb) h
  have hf : refTab.find? (fun c => decide (c.Code = code)) = none := by
   rw [List.find?_eq_none]
   intro c hc hcc
   have := List.all_eq_true.1 Qlu c hc
   simp only [decide_eq_true_eq] at this hcc
   omega
  rw [hf, hb, Qak code hb]; rfl
theorem Q4b (N : Nat) (kind : Int) (l : List Qh) (hl : l.length < 1000) : ∀ (n i : Nat) (acc : List Int), i ≤ l.length → l.length - i < n → acc.length ≤ i → Zn N kind l n (i : Int) acc = some (acc ++ ((l.drop i).filter (fun c => decide (c.Kind = kind))).map (·.Code))
 | 0, i, acc, _, h, _ => by omega
 | n + 1, i, acc, hi, hn, ha => by
  simp only [Zn, Q9, Wm, V5, Vg, X3]
  by_cases h : i < l.length
  ·rw [if_pos (by omega), List.getElem?_eq_getElem h, List.drop_eq_getElem_cons h, List.filter_cons]
   simp only [Option.bind_some]
   by_cases hc : l[i].Kind = kind
   ·rw [if_pos hc, decide_eq_true hc, if_pos (by simp [Nat.ble_eq]; omega), Z5 _ (by omega)]
    have := Q4b N kind l hl n (i + 1) (acc ++ [l[i].Code]) (by omega) (by omega) (by simp; omega)
    rw [show ((i : Int) + 1) = ((i + 1 : Nat) : Int) by push_cast; rfl, this]
    simp
   ·rw [if_neg hc, decide_eq_false hc, Z5 _ (by omega)]
    have := Q4b N kind l hl n (i + 1) acc (by omega) (by omega) (by omega)
    rw [show ((i : Int) + 1) = ((i + 1 : Nat) : Int) by push_cast; rfl, this]
    simp
  ·rw [if_neg (by omega), List.drop_of_length_le (by omega)]; simp
theorem Qmx : ((List.range 26).all fun k => decide ((refTab.filter (fun c => decide (c.Kind = (k : Int)))).map (·.Code) = X4 k)) = true := by decide +kernel
theorem Qhi : (refTab.all fun c => decide (1 ≤ c.Kind ∧ c.Kind ≤ 25)) = true := by decide +kernel
theorem Qey (N : Nat) (kind : Int) (hN : 50 < N) : W4 N kind = some (X4 kind) := by
 simp only [W4, Qca, Option.bind_some]
 have := Q4b N kind refTab (by rw [Q35]; omega) N 0 [] (by omega) (by rw [Q35]; omega) (by simp)
 rw [show ((0 : Nat) : Int) = 0 from rfl] at this
 rw [this, List.drop_zero, List.nil_append, Option.some.injEq]
 by_cases h : kind < 1 ∨ 25 < kind
 ·rw [Q0o kind h, List.map_eq_nil_iff, List.filter_eq_nil_iff]
  intro c hc hcc
  have := List.all_eq_true.1 Qhi c hc
  simp only [decide_eq_true_eq] at this hcc
  omega
 ·have h1 := List.all_eq_true.1 Qmx kind.toNat (by simp; omega)
  simp only [show ((kind.toNat : Nat) : Int) = kind by omega, decide_eq_true_eq] at h1
  exact h1
theorem Qmn (s : List UInt8) (i k lo hi : Nat) : inB (s.drop i) k lo hi = inB s (i + k) lo hi := by
 unfold inB
 rw [List.getElem?_drop]
theorem Q1k (N : Nat) (s : List UInt8) (i k lo hi : Nat) : Q6 N s ((i + k : Nat) : Int) (lo : Int) (hi : Int) = some (inB (s.drop i) k lo hi) := by
 rw [Qmn]
 simp only [Q6, Q9, Wm, Q9d, X3, inB]
 by_cases h : i + k < s.length
 ·rw [if_pos (by omega), List.getElem?_eq_getElem h]
  simp only [Option.bind_some]
  by_cases h1 : lo ≤ s[i + k].toNat
  ·rw [if_pos (by omega)]
   simp only [Q8, h1, true_and, Option.some.injEq, decide_eq_decide]; omega
  ·rw [if_neg (by omega)]
   simp only [h1, false_and, decide_false]
 ·rw [if_neg (by omega), List.getElem?_eq_none (by omega)]
def cpB (s : List UInt8) (b : Nat) : Nat := if b < 128 then 1
  else if 194 ≤ b ∧ b ≤ 223 then (if inB s 1 128 191 then 2 else 0)
  else if b = 224 then (if inB s 1 160 191 && inB s 2 128 191 then 3 else 0)
  else if b = 237 then (if inB s 1 128 159 && inB s 2 128 191 then 3 else 0)
  else if 225 ≤ b ∧ b ≤ 239 then (if inB s 1 128 191 && inB s 2 128 191 then 3 else 0)
  else if b = 240 then (if inB s 1 144 191 && inB s 2 128 191 && inB s 3 128 191 then 4 else 0)
  else if 241 ≤ b ∧ b ≤ 243 then (if inB s 1 128 191 && inB s 2 128 191 && inB s 3 128 191 then 4 else 0)
  else if b = 244 then (if inB s 1 128 143 && inB s 2 128 191 && inB s 3 128 191 then 4 else 0)
  else 0
theorem Qif (b : Nat) : (b < 128) ∨ (194 ≤ b ∧ b ≤ 223) ∨ (b = 224) ∨ (b = 237) ∨ (225 ≤ b ∧ b ≤ 239 ∧ b ≠ 237) ∨ (b = 240) ∨ (241 ≤ b ∧ b ≤ 243) ∨ (b = 244) ∨ (128 ≤ b ∧ b < 194) ∨ (244 < b) := by omega
theorem Qpl (N : Nat) (s : List UInt8) (i : Nat) (hb : s.length < 4611686018427387904) (hi : i < s.length) : Wt N s (i : Int) = some ((cpN (s.drop i) : Nat) : Int) := by
 have e1 : IntKind.i64.wrap ((i : Int) + 1) = ((i + 1 : Nat) : Int) := by rw [Z5 _ (by omega)]; push_cast; rfl
 have e2 : IntKind.i64.wrap ((i : Int) + 2) = ((i + 2 : Nat) : Int) := by rw [Z5 _ (by omega)]; push_cast; rfl
 have e3 : IntKind.i64.wrap ((i : Int) + 3) = ((i + 3 : Nat) : Int) := by rw [Z5 _ (by omega)]; push_cast; rfl
 have c0 : Q6 N s ((i + 1 : Nat) : Int) 128 191 = some (inB (s.drop i) 1 128 191) := Q1k N s i 1 128 191
 have c1 : Q6 N s ((i + 2 : Nat) : Int) 128 191 = some (inB (s.drop i) 2 128 191) := Q1k N s i 2 128 191
 have c2 : Q6 N s ((i + 3 : Nat) : Int) 128 191 = some (inB (s.drop i) 3 128 191) := Q1k N s i 3 128 191
 have c3 : Q6 N s ((i + 1 : Nat) : Int) 160 191 = some (inB (s.drop i) 1 160 191) := Q1k N s i 1 160 191
 have c4 : Q6 N s ((i + 1 : Nat) : Int) 128 159 = some (inB (s.drop i) 1 128 159) := Q1k N s i 1 128 159
 have c5 : Q6 N s ((i + 1 : Nat) : Int) 144 191 = some (inB (s.drop i) 1 144 191) := Q1k N s i 1 144 191
 have c6 : Q6 N s ((i + 1 : Nat) : Int) 128 143 = some (inB (s.drop i) 1 128 143) := Q1k N s i 1 128 143
 have hd : s.drop i = s[i] :: s.drop (i + 1) := List.drop_eq_getElem_cons hi
 have hcp : cpN (s.drop i) = cpB (s.drop i) s[i].toNat := by
  rw [hd]; rfl
 rw [hcp]
 simp only [Wt, Yn, Ze, Yp, Yk, Z1, Zt, Zj, X3, List.getElem?_eq_getElem hi, Option.bind_some, Q9, Wm, Q9d, Q9g, V5, J0, e1, e2, e3]
 simp only [c0, c1, c2, c3, c4, c5, c6, Option.bind_some, cpB]
 generalize s[i].toNat = b
 generalize inB (s.drop i) 1 128 191 = q1
 generalize inB (s.drop i) 2 128 191 = q2
 generalize inB (s.drop i) 3 128 191 = q3
 generalize inB (s.drop i) 1 160 191 = q4
 generalize inB (s.drop i) 1 128 159 = q5
 generalize inB (s.drop i) 1 144 191 = q6
 generalize inB (s.drop i) 1 128 143 = q7
 rcases Qif b with h | h | h | h | h | h | h | h | h | h
 ·simp only [show ((b : Int) < 128) = True from eq_true (by omega), show ((b : Int) ≥ 194) = False from eq_false (by omega), show ((b : Int) ≤ 223) = True from eq_true (by omega), show ((b : Int) = 224) = False from eq_false (by omega), show ((b : Int) = 237) = False from eq_false (by omega), show ((b : Int) ≥ 225) = False from eq_false (by omega), show ((b : Int) ≤ 239) = True from eq_true (by omega), show ((b : Int) ≠ 237) = True from eq_true (by omega), show ((b : Int) = 240) = False from eq_false (by omega), show ((b : Int) ≥ 241) = False from eq_false (by omega), show ((b : Int) ≤ 243) = True from eq_true (by omega), show ((b : Int) = 244) = False from eq_false (by omega), show (b < 128) = True from eq_true (by omega), show (194 ≤ b ∧ b ≤ 223) = False from eq_false (by omega), show (b = 224) = False from eq_false (by omega), show (b = 237) = False from eq_false (by omega), show (225 ≤ b ∧ b ≤ 239) = False from eq_false (by omega), show (b = 240) = False from eq_false (by omega), show (241 ≤ b ∧ b ≤ 243) = False from eq_false (by omega), show (b = 244) = False from eq_false (by omega), if_true, if_false, ite_self, Bool.false_eq_true]
  try (cases q1 <;> cases q2 <;> cases q3 <;> cases q4 <;> cases q5 <;> cases q6 <;> cases q7 <;> rfl)
 ·simp only [show ((b : Int) < 128) = False from eq_false (by omega), show ((b : Int) ≥ 194) = True from eq_true (by omega), show ((b : Int) ≤ 223) = True from eq_true (by omega), show ((b : Int) = 224) = False from eq_false (by omega), show ((b : Int) = 237) = False from eq_false (by omega), show ((b : Int) ≥ 225) = False from eq_false (by omega), show ((b : Int) ≤ 239) = True from eq_true (by omega), show ((b : Int) ≠ 237) = True from eq_true (by omega), show ((b : Int) = 240) = False from eq_false (by omega), show ((b : Int) ≥ 241) = False from eq_false (by omega), show ((b : Int) ≤ 243) = True from eq_true (by omega), show ((b : Int) = 244) = False from eq_false (by omega), show (b < 128) = False from eq_false (by omega), show (194 ≤ b ∧ b ≤ 223) = True from eq_true (by omega), show (b = 224) = False from eq_false (by omega), show (b = 237) = False from eq_false (by omega), show (225 ≤ b ∧ b ≤ 239) = False from eq_false (by omega), show (b = 240) = False from eq_false (by omega), show (241 ≤ b ∧ b ≤ 243) = False from eq_false (by omega), show (b = 244) = False from eq_false (by omega), if_true, if_false, ite_self, Bool.false_eq_true]
  try (cases q1 <;> cases q2 <;> cases q3 <;> cases q4 <;> cases q5 <;> cases q6 <;> cases q7 <;> rfl)
 ·simp only [show ((b : Int) < 128) = False from eq_false (by omega), show ((b : Int) ≥ 194) = True from eq_true (by omega), show ((b : Int) ≤ 223) = False from eq_false (by omega), show ((b : Int) = 224) = True from eq_true (by omega), show ((b : Int) = 237) = False from eq_false (by omega), show ((b : Int) ≥ 225) = False from eq_false (by omega), show ((b : Int) ≤ 239) = True from eq_true (by omega), show ((b : Int) ≠ 237) = True from eq_true (by omega), show ((b : Int) = 240) = False from eq_false (by omega), show ((b : Int) ≥ 241) = False from eq_false (by omega), show ((b : Int) ≤ 243) = True from eq_true (by omega), show ((b : Int) = 244) = False from eq_false (by omega), show (b < 128) = False from eq_false (by omega), show (194 ≤ b ∧ b ≤ 223) = False from eq_false (by omega), show (b = 224) = True from eq_true (by omega), show (b = 237) = False from eq_false (by omega), show (225 ≤ b ∧ b ≤ 239) = False from eq_false (by omega), show (b = 240) = False from eq_false (by omega), show (241 ≤ b ∧ b ≤ 243) = False from eq_false (by omega), show (b = 244) = False from eq_false (by omega), if_true, if_false, ite_self, Bool.false_eq_true]
  try (cases q1 <;> cases q2 <;> cases q3 <;> cases q4 <;> cases q5 <;> cases q6 <;> cases q7 <;> rfl)
 ·simp only [show ((b : Int) < 128) = False from eq_false (by omega), show ((b : Int) ≥ 194) = True from eq_true (by omega), show ((b : Int) ≤ 223) = False from eq_false (by omega), show ((b : Int) = 224) = False from eq_false (by omega), show ((b : Int) = 237) = True from eq_true (by omega), show ((b : Int) ≥ 225) = True from eq_true (by omega), show ((b : Int) ≤ 239) = True from eq_true (by omega), show ((b : Int) ≠ 237) = False from eq_false (by omega), show ((b : Int) = 240) = False from eq_false (by omega), show ((b : Int) ≥ 241) = False from eq_false (by omega), show ((b : Int) ≤ 243) = True from eq_true (by omega), show ((b : Int) = 244) = False from eq_false (by omega), show (b < 128) = False from eq_false (by omega), show (194 ≤ b ∧ b ≤ 223) = False from eq_false (by omega), show (b = 224) = False from eq_false (by omega), show (b = 237) = True from eq_true (by omega), show (225 ≤ b ∧ b ≤ 239) = True from eq_true (by omega), show (b = 240) = False from eq_false (by omega), show (241 ≤ b ∧ b ≤ 243) = False from eq_false (by omega), show (b = 244) = False from eq_false (by omega), if_true, if_false, ite_self, Bool.false_eq_true]
  try (cases q1 <;> cases q2 <;> cases q3 <;> cases q4 <;> cases q5 <;> cases q6 <;> cases q7 <;> rfl)
 ·simp only [show ((b : Int) < 128) = False from eq_false (by omega), show ((b : Int) ≥ 194) = True from eq_true (by omega), show ((b : Int) ≤ 223) = False from eq_false (by omega), show ((b : Int) = 224) = False from eq_false (by omega), show ((b : Int) = 237) = False from eq_false (by omega), show ((b : Int) ≥ 225) = True from eq_true (by omega), show ((b : Int) ≤ 239) = True from eq_true (by omega), show ((b : Int) ≠ 237) = True from eq_true (by omega), show ((b : Int) = 240) = False from eq_false (by omega), show ((b : Int) ≥ 241) = False from eq_false (by omega), show ((b : Int) ≤ 243) = True from eq_true (by omega), show ((b : Int) = 244) = False from eq_false (by omega), show (b < 128) = False from eq_false (by omega), show (194 ≤ b ∧ b ≤ 223) = False from eq_false (by omega), show (b = 224) = False from eq_false (by omega), show (b = 237) = False from eq_false (by omega), show (225 ≤ b ∧ b ≤ 239) = True from eq_true (by omega), show (b = 240) = False from eq_false (by omega), show (241 ≤ b ∧ b ≤ 243) = False from eq_false (by omega), show (b = 244) = False from eq_false (by omega), if_true, if_false, ite_self, Bool.false_eq_true]
  try (cases q1 <;> cases q2 <;> cases q3 <;> cases q4 <;> cases q5 <;> cases q6 <;> cases q7 <;> rfl)
 ·simp only [show ((b : Int) < 128) = False from eq_false (by omega), show ((b : Int) ≥ 194) = True from eq_true (by omega), show ((b : Int) ≤ 223) = False from eq_false (by omega), show ((b : Int) = 224) = False from eq_false (by omega), show ((b : Int) = 237) = False from eq_false (by omega), show ((b : Int) ≥ 225) = True from eq_true (by omega), show ((b : Int) ≤ 239) = False from eq_false (by omega), show ((b : Int) ≠ 237) = True from eq_true (by omega), show ((b : Int) = 240) = True from eq_true (by omega), show ((b : Int) ≥ 241) = False from eq_false (by omega), show ((b : Int) ≤ 243) = True from eq_true (by omega), show ((b : Int) = 244) = False from eq_false (by omega), show (b < 128) = False from eq_false (by omega), show (194 ≤ b ∧ b ≤ 223) = False from eq_false (by omega), show (b = 224) = False from eq_false (by omega), show (b = 237) = False from eq_false (by omega), show (225 ≤ b ∧ b ≤ 239) = False from eq_false (by omega), show (b = 240) = True from eq_true (by omega), show (241 ≤ b ∧ b ≤ 243) = False from eq_false (by omega), show (b = 244) = False from eq_false (by omega), if_true, if_false, ite_self, Bool.false_eq_true]
  try (cases q1 <;> cases q2 <;> cases q3 <;> cases q4 <;> cases q5 <;> cases q6 <;> cases q7 <;> rfl)
 ·simp only [show ((b : Int) < 128) = False from eq_false (by omega), show ((b : Int) ≥ 194) = True from eq_true (by omega), show ((b : Int) ≤ 223) = False from eq_false (by omega), show ((b : Int) = 224) = False from eq_false (by omega), show ((b : Int) = 237) = False from eq_false (by omega), show ((b : Int) ≥ 225) = True from eq_true (by omega), show ((b : Int) ≤ 239) = False from eq_false (by omega), show ((b : Int) ≠ 237) = True from eq_true (by omega), show ((b : Int) = 240) = False from eq_false (by omega), show ((b : Int) ≥ 241) = True from eq_true (by omega), show ((b : Int) ≤ 243) = True from eq_true (by omega), show ((b : Int) = 244) = False from eq_false (by omega), show (b < 128) = False from eq_false (by omega), show (194 ≤ b ∧ b ≤ 223) = False from eq_false (by omega), show (b = 224) = False from eq_false (by omega), show (b = 237) = False from eq_false (by omega), show (225 ≤ b ∧ b ≤ 239) = False from eq_false (by omega), show (b = 240) = False from eq_false (by omega), show (241 ≤ b ∧ b ≤ 243) = True from eq_true (by omega), show (b = 244) = False from eq_false (by omega), if_true, if_false, ite_self, Bool.false_eq_true]
  try (cases q1 <;> cases q2 <;> cases q3 <;> cases q4 <;> cases q5 <;> cases q6 <;> cases q7 <;> rfl)
 ·simp only [show ((b : Int) < 128) = False from eq_false (by omega), show ((b : Int) ≥ 194) = True from eq_true (by omega), show ((b : Int) ≤ 223) = False from eq_false (by omega), show ((b : Int) = 224) = False from eq_false (by omega), show ((b : Int) = 237) = False from eq_false (by omega), show ((b : Int) ≥ 225) = True from eq_true (by omega), show ((b : Int) ≤ 239) = False from eq_false (by omega), show ((b : Int) ≠ 237) = True from eq_true (by omega), show ((b : Int) = 240) = False from eq_false (by omega), show ((b : Int) ≥ 241) = True from eq_true (by omega), show ((b : Int) ≤ 243) = False from eq_false (by omega), show ((b : Int) = 244) = True from eq_true (by omega), show (b < 128) = False from eq_false (by omega), show (194 ≤ b ∧ b ≤ 223) = False from eq_false (by omega), show (b = 224) = False from eq_false (by omega), show (b = 237) = False from eq_false (by omega), show (225 ≤ b ∧ b ≤ 239) = False from eq_false (by omega), show (b = 240) = False from eq_false (by omega), show (241 ≤ b ∧ b ≤ 243) = False from eq_false (by omega), show (b = 244) = True from eq_true (by omega), if_true, if_false, ite_self, Bool.false_eq_true]
  try (cases q1 <;> cases q2 <;> cases q3 <;> cases q4 <;> cases q5 <;> cases q6 <;> cases q7 <;> rfl)
 ·simp only [show ((b : Int) < 128) = False from eq_false (by omega), show ((b : Int) ≥ 194) = False from eq_false (by omega), show ((b : Int) ≤ 223) = True from eq_true (by omega), show ((b : Int) = 224) = False from eq_false (by omega), show ((b : Int) = 237) = False from eq_false (by omega), show ((b : Int) ≥ 225) = False from eq_false (by omega), show ((b : Int) ≤ 239) = True from eq_true (by omega), show ((b : Int) ≠ 237) = True from eq_true (by omega), show ((b : Int) = 240) = False from eq_false (by omega), show ((b : Int) ≥ 241) = False from eq_false (by omega), show ((b : Int) ≤ 243) = True from eq_true (by omega), show ((b : Int) = 244) = False from eq_false (by omega), show (b < 128) = False from eq_false (by omega), show (194 ≤ b ∧ b ≤ 223) = False from eq_false (by omega), show (b = 224) = False from eq_false (by omega), show (b = 237) = False from eq_false (by omega), show (225 ≤ b ∧ b ≤ 239) = False from eq_false (by omega), show (b = 240) = False from eq_false (by omega), show (241 ≤ b ∧ b ≤ 243) = False from eq_false (by omega), show (b = 244) = False from eq_false (by omega), if_true, if_false, ite_self, Bool.false_eq_true]
  try (cases q1 <;> cases q2 <;> cases q3 <;> cases q4 <;> cases q5 <;> cases q6 <;> cases q7 <;> rfl)
 ·simp only [show ((b : Int) < 128) = False from eq_false (by omega), show ((b : Int) ≥ 194) = True from eq_true (by omega), show ((b : Int) ≤ 223) = False from eq_false (by omega), show ((b : Int) = 224) = False from eq_false (by omega), show ((b : Int) = 237) = False from eq_false (by omega), show ((b : Int) ≥ 225) = True from eq_true (by omega), show ((b : Int) ≤ 239) = False from eq_false (by omega), show ((b : Int) ≠ 237) = True from eq_true (by omega), show ((b : Int) = 240) = False from eq_false (by omega), show ((b : Int) ≥ 241) = True from eq_true (by omega), show ((b : Int) ≤ 243) = False from eq_false (by omega), show ((b : Int) = 244) = False from eq_false (by omega), show (b < 128) = False from eq_false (by omega), show (194 ≤ b ∧ b ≤ 223) = False from eq_false (by omega), show (b = 224) = False from eq_false (by omega), show (b = 237) = False from eq_false (by omega), show (225 ≤ b ∧ b ≤ 239) = False from eq_false (by omega), show (b = 240) = False from eq_false (by omega), show (241 ≤ b ∧ b ≤ 243) = False from eq_false (by omega), show (b = 244) = False from eq_false (by omega), if_true, if_false, ite_self, Bool.false_eq_true]
  try (cases q1 <;> cases q2 <;> cases q3 <;> cases q4 <;> cases q5 <;> cases q6 <;> cases q7 <;> rfl)

end
end Go.Av
namespace Go.Av
noncomputable section
open Go.Proofs
set_option maxRecDepth 100000
theorem Qs3 (s : List UInt8) : cpN s ≤ 4 := by
 unfold cpN
 split
 ·omega
 ·repeat' split
  all_goals omega
theorem Qly (N : Nat) (s : List UInt8) (hb : s.length < 4611686018427387000) : ∀ (n i : Nat), s.length - i < n → i ≤ s.length + 4 → Yi N s n (i : Int) = some (Wq (s.drop i))
 | 0, i, h, _ => by omega
 | n + 1, i, h, hi => by
  simp only [Yi, Q9, Wm, V5]
  by_cases h1 : i < s.length
  ·rw [if_pos (by omega), Qpl N s i (by omega) h1]
   simp only [Option.bind_some]
   have h4 := Qs3 (s.drop i)
   have hne : s.drop i ≠ [] := by
    intro e
    have := congrArg List.length e
    rw [List.length_drop] at this
    simp at this; omega
   cases hc : cpN (s.drop i) with
   | zero =>
    rw [if_pos (by rfl), Q2r _ hne hc]
   | succ k =>
    rw [if_neg (by omega), Z5 _ (by omega), Q0r _ k hc, List.drop_drop]
    have := Qly N s hb n (i + (k + 1)) (by omega) (by omega)
    rw [show ((i : Int) + ((k + 1 : Nat) : Int)) = ((i + (k + 1) : Nat) : Int) by push_cast; rfl]
    exact this
  ·rw [if_neg (by omega), List.drop_of_length_le (by omega)]; rfl
theorem Qq2 (N : Nat) (s : List UInt8) (hb : s.length < 4611686018427387000) (h : s.length < N) : Zc N s = some (Wq s) := by
 have := Qly N s hb N 0 (by omega) (by omega)
 unfold Zc
 simpa using this
theorem Qh2 (N : Nat) (s : List UInt8) (hb : s.length < 4611686018427387000) : ∀ (n i : Nat), s.length - i < n → i ≤ s.length → Y9 N s n (i : Int) = some (Q27 (s.drop i))
 | 0, i, h, _ => by omega
 | n + 1, i, h, hi => by
  simp only [Y9, Q9, Wm, Q9d, X3]
  by_cases h1 : i < s.length
  ·rw [if_pos (by omega), List.getElem?_eq_getElem h1]
   simp only [Option.bind_some]
   by_cases h2 : s[i].toNat < 128
   ·rw [if_neg (by omega), Z5 _ (by omega), Q7h _ _ h1 h2]
    exact_mod_cast Qh2 N s hb n (i + 1) (by omega) (by omega)
   ·rw [if_pos (by omega)]
    have : Q27 (s.drop i) = false := by
     rw [List.drop_eq_getElem_cons h1]
     simp only [Q27, List.all_cons, decide_eq_false h2, Bool.false_and]
    rw [this]
  ·rw [if_neg (by omega), List.drop_of_length_le (by omega)]; rfl
theorem Qo6 (N : Nat) (s : List UInt8) (hb : s.length < 4611686018427387000) (h : s.length < N) : Qi N s = some (Q27 s) := by
 have := Qh2 N s hb N 0 (by omega) (by omega)
 unfold Qi
 simpa using this
theorem Q4v (N : Nat) (n b : Int) (hn : okU n) (hb : b = 8 ∨ b = 16 ∨ b = 32) : Z8 N n b = some (Uz n b true) := by
 obtain ⟨h0, h1⟩ := hn
 unfold Z8 Uz s64
 simp only [Q9, Wm]
 rcases hb with rfl | rfl | rfl
 ·rw [if_pos (by decide), show Ut .u64 1 (IntKind.u64.wrap (8 - 1)) = 128 by decide, show IntKind.u64.wrap (0 - 128) = 18446744073709551488 by decide]
  simp only [if_true, Q8]
  split
  ·rename_i h; rw [decide_eq_true]; simp; split <;> omega
  ·rename_i h; rw [Option.some.injEq, decide_eq_decide]; simp; split <;> omega
 ·rw [if_pos (by decide), show Ut .u64 1 (IntKind.u64.wrap (16 - 1)) = 32768 by decide, show IntKind.u64.wrap (0 - 32768) = 18446744073709518848 by decide]
  simp only [if_true, Q8]
  split
  ·rename_i h; rw [decide_eq_true]; simp; split <;> omega
  ·rename_i h; rw [Option.some.injEq, decide_eq_decide]; simp; split <;> omega
 ·rw [if_pos (by decide), show Ut .u64 1 (IntKind.u64.wrap (32 - 1)) = 2147483648 by decide, show IntKind.u64.wrap (0 - 2147483648) = 18446744071562067968 by decide]
  simp only [if_true, Q8]
  split
  ·rename_i h; rw [decide_eq_true]; simp; split <;> omega
  ·rename_i h; rw [Option.some.injEq, decide_eq_decide]; simp; split <;> omega
theorem kinds {k : Int} (h : 1 ≤ k ∧ k ≤ 21) : k = 1 ∨ k = 2 ∨ k = 3 ∨ k = 4 ∨ k = 5 ∨ k = 6 ∨ k = 7 ∨ k = 8 ∨ k = 9 ∨ k = 10 ∨ k = 11 ∨ k = 12 ∨ k = 13 ∨ k = 14 ∨ k = 15 ∨ k = 16 ∨ k = 17 ∨ k = 18 ∨ k = 19 ∨ k = 20 ∨ k = 21 := by omega
theorem rZ (n : Int) (h : okU n) : (some (Q8 .eql n 0) : Option Bool) = some (Uz n 0 false) := by
 have := h.1
 simp only [Uz, Option.some.injEq, Q8, Bool.false_eq_true, if_false]
 rw [Bool.eq_iff_iff]
 simp; omega
theorem rU (n b B : Int) (hb : IntKind.u64.wrap b = b) (h0 : 0 ≤ b) (hB : Ut .u64 1 b = B) (h2 : B = 2 ^ b.toNat) : (if decide (0 ≤ IntKind.u64.wrap b) = true then some (Q8 .lss n (Ut .u64 1 (IntKind.u64.wrap b))) else none) = some (Uz n b false) := by
 rw [hb, if_pos (by simpa using h0), hB, h2]
 simp [Uz, Q8]
theorem r64 (n : Int) (h : okU n) : (some true : Option Bool) = some (Uz n 64 false) := by
 have := h.2
 simp only [Uz, Bool.false_eq_true, if_false]
 rw [decide_eq_true]; simpa using this
theorem Qvv (n : Int) (h : okU n) : (some true : Option Bool) = some (Uz n 64 true) := by
 have h1 := h.1
 have h2 := h.2
 unfold Uz s64
 simp only [if_true]
 rw [decide_eq_true]
 simp
 split <;> omega
theorem Qcz (N : Nat) (v : Q0) (hn : okU v.N') (hk : 1 ≤ v.Kind ∧ v.Kind ≤ 21) : X0 N v = some (Q4a v.Kind v.N') := by
 obtain ⟨k, n, t, is⟩ := v
 simp only at hn hk
 have z := rZ n hn
 have u8 := rU n 8 256 (by decide) (by decide) (by decide) (by decide)
 have u1 := rU n 1 2 (by decide) (by decide) (by decide) (by decide)
 have u16 := rU n 16 65536 (by decide) (by decide) (by decide) (by decide)
 have u32 := rU n 32 4294967296 (by decide) (by decide) (by decide) (by decide)
 have u64 := r64 n hn
 have s64' := Qvv n hn
 have s8 := Q4v N n 8 hn (by simp)
 have s16 := Q4v N n 16 hn (by simp)
 have s32 := Q4v N n 32 hn (by simp)
 have w8 : IntKind.u64.wrap (IntKind.i64.wrap (0 - -8)) = 8 := by decide
 have w16 : IntKind.u64.wrap (IntKind.i64.wrap (0 - -16)) = 16 := by decide
 have w32 : IntKind.u64.wrap (IntKind.i64.wrap (0 - -32)) = 32 := by decide
 have tr : ∀ b : Bool, (b && true) = b := by decide
 simp only [X0, Q4a]
 rcases kinds hk with rfl | rfl | rfl | rfl | rfl | rfl | rfl | rfl | rfl | rfl | rfl | rfl | rfl | rfl | rfl | rfl | rfl | rfl | rfl | rfl | rfl
 ·show _ = some (_ && true); rw [tr]; exact z
 ·show _ = some (_ && true); rw [tr]; simp only [show Qf N 2 = some 1 from rfl, Option.bind_some, Q9]; exact u1
 ·show _ = some (_ && true); rw [tr]; simp only [show Qf N 3 = some 8 from rfl, Option.bind_some, Q9]; exact u8
 ·show _ = some (_ && true); rw [tr]; simp only [show Qf N 4 = some 16 from rfl, Option.bind_some, Q9]; exact u16
 ·show _ = some (_ && true); rw [tr]; simp only [show Qf N 5 = some 32 from rfl, Option.bind_some, Q9]; exact u32
 ·show _ = some (_ && true); rw [tr]; exact u64
 ·show _ = some (_ && true); rw [tr]
  simp only [show Qf N 7 = some (-8) from rfl, Option.bind_some, Q9, w8, s8]; rfl
 ·show _ = some (_ && true); rw [tr]
  simp only [show Qf N 8 = some (-16) from rfl, Option.bind_some, Q9, w16, s16]; rfl
 ·show _ = some (_ && true); rw [tr]
  simp only [show Qf N 9 = some (-32) from rfl, Option.bind_some, Q9, w32, s32]; rfl
 ·show _ = some (_ && true); rw [tr]; exact s64'
 ·show _ = some (_ && true); rw [tr]; simp only [show Qf N 11 = some 32 from rfl, Option.bind_some, Q9]; exact u32
 ·show _ = some (_ && true); rw [tr]; exact u64
 ·show _ = some (_ && true); rw [tr]; simp only [show Qf N 13 = some 32 from rfl, Option.bind_some, Q9]; exact u32
 ·show _ = some (_ && true); rw [tr]; exact u64
 ·show _ = some (_ && true); rw [tr]; exact z
 ·show _ = some (_ && Q9f n)
  have e : Wr N n = some (Q9f n) := by
   unfold Wr Q9f
   simp only [Q9, Q9g, Wm]
   split
   ·split
    ·rw [decide_eq_true (by omega)]
    ·simp only [Q8, Option.some.injEq, decide_eq_decide]; omega
   ·rw [decide_eq_false (by omega)]
  simp only [show Qf N 16 = some 32 from rfl, Option.bind_some, e]
  show some (Q9f n) = _
  have h0 := hn.1
  cases hc : Q9f n with
  | false => rw [Bool.and_false]
  | true =>
   rw [Bool.and_true]
   unfold Q9f at hc
   simp only [decide_eq_true_eq] at hc
   simp only [show Vr 16 = (32, false) from rfl, Uz, Bool.false_eq_true, if_false]
   rw [decide_eq_true]
   simp; omega
 ·show _ = some (_ && true); rw [tr]; exact s64'
 ·show _ = some (_ && true); rw [tr]; exact z
 ·show _ = some (_ && true); rw [tr]; exact z
 ·show _ = some (_ && true); rw [tr]; exact z
 ·show _ = some (_ && true); rw [tr]; exact z
theorem Qge (N : Nat) (k : Int) (h : k ≤ 21) : Xa N k = some (Ga k) := by
 unfold Xa Ga
 simp only [Q9, V5, Q9d]
 split
 ·rename_i h1; simp [h1]
 split
 ·simp only [Q8, Option.some.injEq, decide_eq_decide]; omega
 ·rw [decide_eq_false (by omega)]
theorem Qq0 (v : Q0) : (((Q0.rows v.Items).length : Int) > 0) = (v.Items ≠ []) := by
 rw [Yg]
 apply propext
 cases v.Items <;> simp
theorem Q26 (N : Nat) (v : Q0) (hn : okU v.N') (h : v.Text.length < N) (hb : v.Text.length < 4611686018427387000) : Qj N v = some (Xj v) := by
 simp only [Qj, Q9, V5, Wm, Q47, J0, Jh, Qq2 N v.Text hb h, Qo6 N v.Text hb h, Qq0, Option.bind_some]
 have e3 : ((v.Text.length : Int) ≠ 16) = (v.Text.length ≠ 16) := by apply propext; omega
 have e4 : ((1048576 : Int) < v.Text.length) = (1048576 < v.Text.length) := by apply propext; omega
 have e4' : ((v.Text.length : Int) > 1048576) = (1048576 < v.Text.length) := by apply propext; omega
 simp only [e3, e4, gt_iff_lt]
 unfold Xj
 by_cases h1 : v.Kind < 1
 ·rw [if_pos (show v.Kind < 1 ∨ 21 < v.Kind from .inl h1), if_neg (show ¬ v.Kind = 15 by omega), if_pos h1]
 by_cases h2 : 21 < v.Kind
 ·rw [if_pos (show v.Kind < 1 ∨ 21 < v.Kind from .inr h2), if_neg (show ¬ v.Kind = 15 by omega), if_neg h1, if_pos h2]
 rw [if_neg (show ¬ (v.Kind < 1 ∨ 21 < v.Kind) by omega)]
 simp only [h1, h2, if_false, Qcz N v hn (show 1 ≤ v.Kind ∧ v.Kind ≤ 21 by omega), Qge N v.Kind (show v.Kind ≤ 21 by omega), Option.bind_some]
 cases ho : Q4a v.Kind v.N' with
 | false => simp
 | true =>
  simp only [Bool.not_true, Bool.false_eq_true, if_false, Bool.true_eq_false, false_or]
  by_cases hi : v.Items = []
  ·simp only [hi, ne_eq, not_true_eq_false, if_false]
   by_cases h15 : v.Kind = 15
   ·have ht : Ga 15 = true := rfl
    simp only [ht, h15, if_true, Bool.not_true, Bool.false_eq_true, if_false, Bool.true_eq_false, true_or, true_and, show ¬ ((15 : Int) = 20) by decide, show ¬ ((15 : Int) = 21) by decide, Qcb]
    by_cases hl : v.Text.length = 16 <;> simp [hl]
   ·by_cases h18 : v.Kind = 18
    ·have ht : Ga 18 = true := rfl
     simp only [ht, h18, if_true, Bool.not_true, Bool.false_eq_true, if_false, Bool.true_eq_false, or_true, true_and, show ¬ ((18 : Int) = 20) by decide, show ¬ ((18 : Int) = 21) by decide, show ¬ ((18 : Int) = 15) by decide, Qcb]
     by_cases hl : v.Text.length = 16 <;> simp [hl]
    ·by_cases h20 : v.Kind = 20
     ·have ht : Ga 20 = true := rfl
      simp only [ht, h20, if_true, Bool.not_true, Bool.false_eq_true, if_false, Bool.true_eq_false, show ¬ ((20 : Int) = 18) by decide, show ¬ ((20 : Int) = 21) by decide, show ¬ ((20 : Int) = 15) by decide, Qcb, or_self, false_and]
      cases Wq v.Text <;> split <;> simp_all
     ·by_cases h21 : v.Kind = 21
      ·have ht : Ga 21 = true := rfl
       simp only [ht, h21, if_true, Bool.not_true, Bool.false_eq_true, if_false, Bool.true_eq_false, show ¬ ((21 : Int) = 18) by decide, show ¬ ((21 : Int) = 20) by decide, show ¬ ((21 : Int) = 15) by decide, Qcb, or_self, false_and]
       cases Q27 v.Text <;> split <;> simp_all
      ·simp only [h15, h18, h20, h21, if_false, or_self, false_and, Qcb]
       cases ht : Ga v.Kind with
       | false =>
        simp only [Bool.not_false, if_true]
        by_cases htt : v.Text = [] <;> simp [htt]
       | true =>
        simp only [Bool.not_true, Bool.false_eq_true, if_false, Bool.true_eq_false]
        split <;> rfl
  ·simp [hi]
end
end Go.Av
namespace Go.Av
noncomputable section
open Go.Proofs
set_option maxRecDepth 100000
def Qjw (k : Nat) : Bool := (Wb k).2.2.2.2 || (Wb k).2.2.2.1 || !decide ((Wb k).2.2.1 = 1) || decide (((Wb k).1 = 80 ∧ (Wb k).2.1 = 3) ∨ ((Wb k).1 = 81 ∧ (Wb k).2.1 = 7) ∨ ((Wb k).1 = 82 ∧ (Wb k).2.1 = 5) ∨ ((Wb k).1 = 83 ∧ (Wb k).2.1 = 6) ∨ ((Wb k).1 = 84 ∧ (Wb k).2.1 = 9) ∨ ((Wb k).1 = 85 ∧ (Wb k).2.1 = 10) ∨ ((Wb k).1 = 86 ∧ (Wb k).2.1 = 2))
theorem Qi7 : ((List.range 40).all Qjw) = true := by decide +kernel
def Qw7 (k : Nat) : Bool := decide ((Wb k).2.1 = 17 → (Wb k).2.2.1 = 8)
theorem Qpo : ((List.range 40).all Qw7) = true := by decide +kernel
theorem Qgo {P : Int × Int × Int × Bool × Bool → Prop} {B : Nat → Bool} (hB : ((List.range 40).all B) = true) (hP : ∀ k, B k = true → P (Wb k)) {code : Int} (h : ofB code = true) : P (ofT code) := by
 have h1 : bsI code < 40 ∧ Uj (bsI code) = code := by simpa [ofB] using h
 have := List.all_eq_true.1 hB (bsI code) (by simpa using h1.1)
 have e : ofT code = Wb (bsI code) := by unfold ofT; rw [if_pos h]
 rw [e]; exact hP _ this
theorem Qrd {code : Int} (h : ofB code = true) (hi : (ofS code).Items = false) (hs : (ofS code).Sized = false) (hw : (ofS code).Width = 1) :
  (code = 80 ∧ (ofS code).Kind = 3) ∨ (code = 81 ∧ (ofS code).Kind = 7) ∨ (code = 82 ∧ (ofS code).Kind = 5) ∨ (code = 83 ∧ (ofS code).Kind = 6) ∨ (code = 84 ∧ (ofS code).Kind = 9) ∨ (code = 85 ∧ (ofS code).Kind = 10) ∨ (code = 86 ∧ (ofS code).Kind = 2) := by
 have hc := (Q6q code h).code
 have := Qgo (P := fun t => t.2.2.2.2 = false → t.2.2.2.1 = false → t.2.2.1 = 1 → (t.1 = 80 ∧ t.2.1 = 3) ∨ (t.1 = 81 ∧ t.2.1 = 7) ∨ (t.1 = 82 ∧ t.2.1 = 5) ∨ (t.1 = 83 ∧ t.2.1 = 6) ∨ (t.1 = 84 ∧ t.2.1 = 9) ∨ (t.1 = 85 ∧ t.2.1 = 10) ∨ (t.1 = 86 ∧ t.2.1 = 2)) Qi7 (fun k hk h1 h2 h3 => by
  simp only [Qjw, h1, h2, h3, Bool.false_or, decide_true, Bool.not_true, decide_eq_true_eq] at hk
  exact hk) h
 have h2 := this hi hs hw
 have hc' : (ofT code).1 = code := hc
 rw [hc'] at h2
 exact h2
theorem Qt7 {code : Int} (h : ofB code = true) (hk : (ofS code).Kind = 17) : (ofS code).Width = 8 :=
 Qgo (P := fun t => t.2.1 = 17 → t.2.2.1 = 8) Qpo (fun _k hk => of_decide_eq_true hk) h hk
theorem o8x : ((List.range 4).all fun j => decide ((ofS (82 + (j : Int))).Sized = false ∧ (ofS (82 + (j : Int))).Width = 1)) = true := by decide +kernel
theorem Ql8 {code : Int} (h : code = 82 ∨ code = 83 ∨ code = 84 ∨ code = 85) : (ofS code).Sized = false ∧ (ofS code).Width = 1 := by
 have := List.all_eq_true.1 o8x (code - 82).toNat (by simp; omega)
 simp only [decide_eq_true_eq] at this
 rwa [show ((82 : Int) + ((code - 82).toNat : Nat)) = code by omega] at this
theorem Qid (N : Nat) (code : Int) (v : Q0) (hn : okU v.N') (h : v.Text.length < N) (hb : v.Text.length < 4611686018427387000) (hN : 50 < N) : Wp N code v = some (Vi code v) := by
 simp only [Wp, Q3a N code hN, Option.bind_some, Q9, Q26 N v hn h hb, J0, V5, Q4v N v.N' 8 hn (by simp), Vi]
 cases hob : ofB code with
 | false => rfl
 | true =>
  simp only [Bool.not_true, Bool.false_eq_true, if_false, Bool.true_and]
  by_cases hk : (ofS code).Kind = v.Kind
  ·rw [if_neg (show ¬ ((ofS code).Kind ≠ v.Kind) by simp [hk]), decide_eq_true hk, Bool.true_and]
   by_cases hc : Xj v = 0
   ·rw [if_neg (show ¬ (Xj v ≠ 0) by simp [hc]), decide_eq_true hc, Bool.true_and]
    obtain ⟨c1, c2, c3, c4, c5, c6, c7⟩ := Wx hc
    have hw := Q6q code hob
    have hi := Vn hw (by omega)
    have hcd := hw.code
    unfold Q2f
    rw [hcd]
    by_cases h65 : code = 65
    ·rw [if_pos h65, if_pos h65]; rfl
    rw [if_neg h65, if_neg h65]
    cases hw.shape hi with
    | sized w hs hw' h12 hk2 hcc =>
     rw [if_neg (show ¬ (ofS code).Width = 0 by omega), hs, if_pos rfl, if_pos rfl, hw']
     have n8 : ∀ c : Int, c = 82 ∨ c = 83 ∨ c = 84 ∨ c = 85 → code ≠ c := fun c hc e => by
      subst e
      have := (Ql8 hc).1
      rw [hs] at this; cases this
     rw [if_neg (n8 82 (by simp)), if_neg (n8 83 (by simp)), if_neg (n8 84 (by simp)), if_neg (n8 85 (by simp))]
     rcases h12 with rfl | rfl
     ·rw [if_pos (by decide)]; simp only [Q8, Option.some.injEq, decide_eq_decide]; omega
     ·rw [if_neg (by decide)]; rfl
    | wide hs hw' hk2 hcc =>
     have n8 : ∀ c : Int, c = 82 ∨ c = 83 ∨ c = 84 ∨ c = 85 → code ≠ c := fun c hc e => by
      subst e
      have := (Ql8 hc).2
      omega
     rw [hs, hw']
     simp only [n8 82 (by simp), n8 83 (by simp), n8 84 (by simp), n8 85 (by simp), if_false, Bool.false_eq_true, show ¬ ((16 : Int) = 0) by decide, show ¬ ((16 : Int) = 1) by decide]
    | num w hs hw' hh ht hcc hbb =>
     rw [hs, if_neg (show ¬ (false = true) by simp), if_neg (show ¬ (false = true) by simp)]
     by_cases h0 : (ofS code).Width = 0
     ·rw [if_pos h0, if_pos h0]; rfl
     rw [if_neg h0, if_neg h0]
     by_cases h1 : (ofS code).Width = 1
     ·rw [if_pos h1]
      have ok1 : Uz v.N' (Vr v.Kind).1 (Vr v.Kind).2 = true := by
       simp only [Q4a, Bool.and_eq_true] at c3; exact c3.1
      rw [← hk] at ok1
      rcases Qrd hob hi hs h1 with ⟨e1, e2⟩ | ⟨e1, e2⟩ | ⟨e1, e2⟩ | ⟨e1, e2⟩ | ⟨e1, e2⟩ | ⟨e1, e2⟩ | ⟨e1, e2⟩
      ·rw [e2] at ok1 ⊢
       simp only [e1, show ¬ ((80 : Int) = 82) by decide, show ¬ ((80 : Int) = 83) by decide, show ¬ ((80 : Int) = 84) by decide, show ¬ ((80 : Int) = 85) by decide, if_false]
       exact congrArg some ok1.symm
      ·rw [e2] at ok1 ⊢
       simp only [e1, show ¬ ((81 : Int) = 82) by decide, show ¬ ((81 : Int) = 83) by decide, show ¬ ((81 : Int) = 84) by decide, show ¬ ((81 : Int) = 85) by decide, if_false]
       exact congrArg some ok1.symm
      ·rw [e2, e1, if_pos rfl]; rfl
      ·rw [e2, e1, if_neg (by decide), if_pos rfl]; rfl
      ·rw [e2, e1, if_neg (by decide), if_neg (by decide), if_pos rfl]; rfl
      ·rw [e2, e1, if_neg (by decide), if_neg (by decide), if_neg (by decide), if_pos rfl]; rfl
      ·rw [e2] at ok1 ⊢
       simp only [e1, show ¬ ((86 : Int) = 82) by decide, show ¬ ((86 : Int) = 83) by decide, show ¬ ((86 : Int) = 84) by decide, show ¬ ((86 : Int) = 85) by decide, if_false]
       have : Uz v.N' 8 false = true := by
        simp only [show Vr 2 = (1, false) from rfl, Uz, Bool.false_eq_true, if_false, decide_eq_true_eq] at ok1 ⊢
        simp at ok1 ⊢; omega
       exact congrArg some this.symm
     ·rw [if_neg h1]
      have n8 : ∀ c : Int, c = 82 ∨ c = 83 ∨ c = 84 ∨ c = 85 → code ≠ c := fun c hc e => by
       subst e
       exact h1 (Ql8 hc).2
      rw [if_neg (n8 82 (by simp)), if_neg (n8 83 (by simp)), if_neg (n8 84 (by simp)), if_neg (n8 85 (by simp))]
   ·rw [if_pos (show Xj v ≠ 0 from hc), decide_eq_false hc]; rfl
  ·rw [if_pos (show (ofS code).Kind ≠ v.Kind from hk), decide_eq_false hk]; rfl
theorem Qos (N w : Nat) (hw : w ≤ 8) : ∀ (k i n : Nat) (out : List UInt8), n < 18446744073709551616 → i ≤ w → w - i < k → out.length ≤ i → X2 N (w : Int) k (n : Int) out (i : Int) = some (Uc n (w - i) ++ out)
 | 0, i, n, out, _, _, h, _ => by omega
 | k + 1, i, n, out, hn, hi, hk, ho => by
  simp only [X2, Q9, Wm]
  by_cases h : i < w
  ·rw [if_pos (by omega), if_pos (by simp [Nat.ble_eq]; omega), Z5 _ (by omega)]
   have e1 : Q1d .u64 (n : Int) 8 = ((n / 256 : Nat) : Int) := by
    simp only [Q1d]
    rw [show min (Int.toNat 8) IntKind.u64.bits = 8 from rfl, Int.fdiv_eq_ediv_of_nonneg _ (by decide)]
    push_cast; rfl
   have e2 : UInt8.ofNat (IntKind.u8.wrap (n : Int)).toNat = UInt8.ofNat (n % 256) := by
    rw [Qr7]; congr 1
   have := Qos N w hw k (i + 1) (n / 256) (UInt8.ofNat (n % 256) :: out) (by omega) (by omega) (by omega) (by simp; omega)
   rw [e1, e2, show ((i : Int) + 1) = ((i + 1 : Nat) : Int) by push_cast; rfl, List.singleton_append, this]
   obtain ⟨m, hm⟩ : ∃ m, w - i = m + 1 := ⟨w - i - 1, by omega⟩
   rw [hm, show w - (i + 1) = m by omega, Uc]
   simp
  ·rw [if_neg (by omega), show w - i = 0 by omega]; rfl
theorem Qod (N n w : Nat) (hn : n < 18446744073709551616) (hw : w ≤ 8) (hN : 10 < N) : Xz N (n : Int) (w : Int) = some (Uc n w) := by
 have := Qos N w hw N 0 n [] hn (by omega) (by omega) (by simp)
 unfold Xz
 rw [show (0 : Int) = ((0 : Nat) : Int) from rfl, this]; simp
theorem Qj5 (N : Nat) (code : Int) (v : Q0) (hn : okU v.N') (h : v.Text.length < N) (hb : v.Text.length < 4611686018427387000) (hN : 50 < N) : V6 N code v = some (Qb8 code v) := by
 simp only [V6, Q26 N v hn h hb, Qid N code v hn h hb hN, Q3a N code hN, Option.bind_some, Q9, J0, V5, Qb8]
 by_cases h1 : Xj v = 0
 ·rw [if_neg (show ¬ (Xj v ≠ 0) by simp [h1]), if_neg (show ¬ (Xj v ≠ 0) by simp [h1])]
  cases hf : Vi code v with
  | false => rfl
  | true =>
   obtain ⟨f1, f2, f3, f4⟩ := Gz hf
   obtain ⟨c1, c2, c3, c4, c5, c6, c7⟩ := Wx f3
   have hw := Q6q code f1
   have hi := Vn hw (by omega)
   simp only [Bool.not_true, Bool.false_eq_true, if_false, Bool.true_eq_false]
   generalize ofS code = c at *
   unfold Jj
   cases hw.shape hi with
   | sized w hs hw' h12 hk hc =>
    rw [hs, hw', Qb4 _ (by omega), Qod N _ w (by omega) (by omega) (by omega)]
    simp only [if_true, Option.bind_some, Int.toNat_natCast]
    rw [if_pos (by simp [Nat.ble_eq, X6]; omega)]
   | wide hs hw' hk hc => rw [hs, hw']; rfl
   | num w hs hw' hh ht hc hbb =>
    have e : v.N' = ((v.N'.toNat : Nat) : Int) := by have := hn.1; omega
    have hlt : v.N'.toNat < 18446744073709551616 := by have := hn.2; have := hn.1; omega
    rw [hs, hw', e, Qod N _ w hlt (by omega) (by omega)]
    simp only [Bool.false_eq_true, if_false, Option.bind_some, Int.toNat_natCast]
    rw [if_neg (by omega), if_neg (by omega)]
 ·rw [if_pos (show Xj v ≠ 0 from h1), if_pos (show Xj v ≠ 0 from h1)]
theorem Qoc (N : Nat) (s : List UInt8) (hl : s.length ≤ 8) : ∀ (k i : Nat), i ≤ s.length → s.length - i < k → Zy N s k (Q17 (s.take i) : Nat) (i : Int) = some ((Q17 s : Nat) : Int)
 | 0, i, h, h2 => by omega
 | k + 1, i, h, h2 => by
  simp only [Zy, Q9, Wm]
  by_cases hi : i < s.length
  ·rw [if_pos (by omega), X3, List.getElem?_eq_getElem hi]
   simp only [Option.bind_some]
   have h3 := Q5t (s.take i)
   have h4 : 256 ^ (s.take i).length ≤ 256 ^ 7 := Nat.pow_le_pow_right (by omega) (by rw [List.length_take]; omega)
   have h5 : (256 : Nat) ^ 7 = 72057594037927936 := rfl
   rw [Qlf _ _ (by omega) s[i].toNat_lt, ← Qkf s i hi, Z5 _ (by omega)]
   exact_mod_cast Qoc N s hl k (i + 1) (by omega) (by omega)
  ·rw [if_neg (by omega), List.take_of_length_le (by omega)]
theorem Qh3 (N : Nat) (s : List UInt8) (hl : s.length ≤ 8) (hN : 10 < N) : Zk N s = some ((Q17 s : Nat) : Int) := by
 unfold Zk
 exact Qoc N s hl N 0 (by omega) (by omega)
end
end Go.Av
namespace Go.Av
noncomputable section
open Go.Proofs
set_option maxRecDepth 100000
theorem Qel (N : Nat) (k : Int) (h : (Vr k).2 = false) : ∃ b, Qf N k = some b ∧ ¬ b < 0 ∧ k ≠ 10 := by
 by_cases hk : 1 ≤ k ∧ k ≤ 21
 ·rcases kinds hk with rfl | rfl | rfl | rfl | rfl | rfl | rfl | rfl | rfl | rfl | rfl | rfl | rfl | rfl | rfl | rfl | rfl | rfl | rfl | rfl | rfl <;>
   first | (exact absurd h (by decide)) | exact ⟨_, rfl, by decide, by decide⟩
 ·refine ⟨0, ?_, by decide, by omega⟩
  unfold Qf
  simp only [Q9, V5]
  simp only [show ¬ k = 2 by omega, show ¬ k = 3 by omega, show ¬ k = 4 by omega, show ¬ k = 5 by omega, show ¬ k = 11 by omega, show ¬ k = 13 by omega, show ¬ k = 16 by omega, show ¬ k = 6 by omega, show ¬ k = 12 by omega, show ¬ k = 14 by omega, show ¬ k = 17 by omega, show ¬ k = 10 by omega, show ¬ k = 7 by omega, show ¬ k = 8 by omega, show ¬ k = 9 by omega, if_false]
theorem Qf7 (N : Nat) (k : Int) (h : (Vr k).2 = true) : (∃ b, Qf N k = some b ∧ b < 0) ∨ (∃ b, Qf N k = some b ∧ ¬ b < 0 ∧ (k = 10 ∨ k = 17)) := by
 by_cases hk : 1 ≤ k ∧ k ≤ 21
 ·rcases kinds hk with rfl | rfl | rfl | rfl | rfl | rfl | rfl | rfl | rfl | rfl | rfl | rfl | rfl | rfl | rfl | rfl | rfl | rfl | rfl | rfl | rfl <;>
   first | (exact absurd h (by decide)) | exact .inl ⟨_, rfl, by decide⟩ | exact .inr ⟨_, rfl, by decide, by decide⟩
 ·exfalso
  unfold Vr at h
  simp only [show ¬ k = 2 by omega, show ¬ k = 3 by omega, show ¬ k = 4 by omega, show ¬ k = 5 by omega, show ¬ k = 11 by omega, show ¬ k = 13 by omega, show ¬ k = 16 by omega, show ¬ k = 6 by omega, show ¬ k = 12 by omega, show ¬ k = 14 by omega, show ¬ k = 17 by omega, show ¬ k = 10 by omega, show ¬ k = 7 by omega, show ¬ k = 8 by omega, show ¬ k = 9 by omega, if_false, or_self] at h
  cases h
theorem Qlo (c : Qh) (n w : Nat) (hw : c.Width = w) (hh : w = 1 ∨ w = 2 ∨ w = 4 ∨ w = 8) (hn : n < 256 ^ w) (hs : (Vr c.Kind).2 = true) :
  (if decide (0 ≤ (IntKind.wrap .u64 (IntKind.wrap .i64 ((IntKind.wrap .i64 (8 * (w : Int))) - 1)))) = true then (if (n : Int) ≥ Ut .u64 1 (IntKind.wrap .u64 (IntKind.wrap .i64 ((IntKind.wrap .i64 (8 * (w : Int))) - 1))) then
   some (IntKind.wrap .u64 ((IntKind.wrap .u64 ((n : Int) - (Ut .u64 1 (IntKind.wrap .u64 (IntKind.wrap .i64 ((IntKind.wrap .i64 (8 * (w : Int))) - 1)))))) - (Ut .u64 1 (IntKind.wrap .u64 (IntKind.wrap .i64 ((IntKind.wrap .i64 (8 * (w : Int))) - 1)))))) else some (n : Int)) else none) = some (Jk c n) := by
 unfold Jk
 simp only [hs, true_and, hw]
 rcases hh with rfl | rfl | rfl | rfl
 ·rw [if_pos (by decide), show Ut .u64 1 (IntKind.wrap .u64 (IntKind.wrap .i64 ((IntKind.wrap .i64 (8 * ((1 : Nat) : Int))) - 1))) = 128 by decide]
  simp only [Q8z]
  simp at hn ⊢
  split <;> simp <;> omega
 ·rw [if_pos (by decide), show Ut .u64 1 (IntKind.wrap .u64 (IntKind.wrap .i64 ((IntKind.wrap .i64 (8 * ((2 : Nat) : Int))) - 1))) = 32768 by decide]
  simp only [Q8z]
  simp at hn ⊢
  split <;> simp <;> omega
 ·rw [if_pos (by decide), show Ut .u64 1 (IntKind.wrap .u64 (IntKind.wrap .i64 ((IntKind.wrap .i64 (8 * ((4 : Nat) : Int))) - 1))) = 2147483648 by decide]
  simp only [Q8z]
  simp at hn ⊢
  split <;> simp <;> omega
 ·rw [if_pos (by decide), show Ut .u64 1 (IntKind.wrap .u64 (IntKind.wrap .i64 ((IntKind.wrap .i64 (8 * ((8 : Nat) : Int))) - 1))) = 9223372036854775808 by decide]
  simp only [Q8z]
  simp at hn ⊢
  intro; omega
theorem Qnm (N : Nat) (c : Qh) (n w : Nat) (hw : c.Width = w) (hh : w = 1 ∨ w = 2 ∨ w = 4 ∨ w = 8) (hn : n < 256 ^ w) (h17 : c.Kind = 17 → w = 8) : W3 N (n : Int) c.Kind (w : Int) = some (Jk c n) := by
 simp only [W3, Q9, Wm, V5, Q9d]
 cases hs : (Vr c.Kind).2 with
 | false =>
  obtain ⟨b, hb, hb0, h10⟩ := Qel N c.Kind hs
  rw [hb]
  simp only [Option.bind_some]
  rw [if_neg hb0, if_neg h10]
  unfold Jk
  rw [if_neg (by simp [hs])]
 | true =>
  rcases Qf7 N c.Kind hs with ⟨b, hb, hb0⟩ | ⟨b, hb, hb0, hk⟩
  ·rw [hb]
   simp only [Option.bind_some]
   rw [if_pos hb0]
   exact Qlo c n w hw hh hn hs
  ·rw [hb]
   simp only [Option.bind_some]
   rw [if_neg hb0]
   rcases hk with hk | hk
   ·rw [if_pos hk]
    exact Qlo c n w hw hh hn hs
   ·rw [if_neg (by omega)]
    have h8 := h17 hk
    subst h8
    unfold Jk
    simp only [hs, true_and, hw]
    simp
theorem Q8h (k : Int) (v : Q0) (n : Int) : (if k = 2 then some ((⟨0, 0, [], []⟩ : Q0), (0 : Int), (5 : Int)) else if k ≠ 0 then some (⟨0, 0, [], []⟩, 0, k) else some (v, n, 0)) = some (if k = 0 then (v, n, 0) else (G9, 0, if k = 2 then 5 else k)) := by
 by_cases h2 : k = 2
 ·subst h2; rfl
 ·rw [if_neg h2]
  by_cases h0 : k = 0
  ·rw [if_neg (show ¬ (k ≠ 0) by simp [h0]), if_pos h0]
  ·rw [if_pos (show k ≠ 0 from h0), if_neg h0, if_neg h2]; rfl
theorem Qc6 (N : Nat) (code : Int) (s : List UInt8) (hs : s.length < 4611686018427387000) (h : s.length < N) (hN : 50 < N) : V7 N code s = some (Q94 code s) := by
 have hck : ∀ v : Q0, okU v.N' → v.Text.length ≤ s.length → Qj N v = some (Xj v) := fun v h1 h2 => Q26 N v h1 (by omega) (by omega)
 simp only [V7, Q3a N code hN, Option.bind_some, Q9, Wm, Q47, V5, J0, Q94]
 cases hb : ofB code with
 | false => simp only [Bool.not_false, if_true, true_or]; rfl
 | true =>
  have hw := Q6q code hb
  have ht8 := Qt7 hb
  have hcd := hw.code
  simp only [Bool.not_true, Bool.false_eq_true, if_false, Bool.true_eq_false, false_or]
  cases hi : (ofS code).Items with
  | true => rfl
  | false =>
   simp only [Bool.false_eq_true, if_false]
   rw [← hcd]
   rw [hcd]
   generalize hc0 : ofS code = c at *
   by_cases hl : (s.length : Int) < c.Width
   ·rw [if_pos hl, if_pos hl]; rfl
   rw [if_neg hl, if_neg hl]
   cases hw.shape hi with
   | sized w hsz hw' h12 hk hc =>
    simp only [hsz, hw', if_true, Int.toNat_natCast]
    have hlw : w ≤ s.length := by omega
    rw [if_pos (by simp), if_pos (by simp [Nat.ble_eq]; omega), List.drop_zero, Qh3 N _ (by rw [List.length_take]; omega) (by omega)]
    simp only [Option.bind_some]
    have hlt := Q5t (s.take w)
    have h4 : 256 ^ (s.take w).length ≤ 256 ^ 4 := Nat.pow_le_pow_right (by omega) (by rw [List.length_take]; omega)
    have h5 : (256 : Nat) ^ 4 = 4294967296 := rfl
    generalize hm : Q17 (s.take w) = m at *
    have e1 : IntKind.u64.wrap (IntKind.i64.wrap ((s.length : Int) - (w : Int))) = ((s.length - w : Nat) : Int) := by
     rw [Z5 _ (by omega), show ((s.length : Int) - (w : Int)) = ((s.length - w : Nat) : Int) by omega, Qb4 _ (by omega)]
    rw [e1]
    by_cases h6 : s.length - w < m
    ·rw [if_pos (by omega), if_pos h6]; rfl
    ·rw [if_neg (by omega), if_neg h6]
     have e2 : IntKind.i64.wrap ((w : Int) + IntKind.i64.wrap (m : Int)) = ((w + m : Nat) : Int) := by
      rw [Z5 (m : Int) (by omega), Z5 _ (by omega)]; push_cast; rfl
     rw [e2]
     simp only [Int.toNat_natCast]
     rw [if_pos (by simp; omega), if_pos (by simp [Nat.ble_eq]; omega)]
     rw [show (s.take (w + m)).drop w = (s.drop w).take m by rw [List.drop_take]; congr 1; omega]
     rw [hck _ Qpp (by simp only [List.length_take, List.length_drop]; omega)]
     simp only [Option.bind_some]
     rw [Q8h]
     unfold Ql5
     rw [show ((w + m : Nat) : Int) = (w : Int) + (m : Int) by push_cast; rfl]
   | wide hsz hw' hk hc =>
    simp only [hsz, hw', Bool.false_eq_true, if_false, if_true]
    rw [if_pos (by simp [Nat.ble_eq]; omega), List.drop_zero, hck _ Qpp (by simp only [List.length_take]; omega)]
    simp only [Option.bind_some]
    rw [Q8h]
    rfl
   | num w hsz hw' hh ht hc hbb =>
    simp only [hsz, hw', Bool.false_eq_true, if_false, Int.toNat_natCast]
    rw [if_neg (show ¬ ((w : Int) = 16) by omega), if_neg (show ¬ ((w : Int) = 16) by omega)]
    by_cases h65 : code = 65
    ·obtain ⟨rfl, hk2⟩ := hc (by rw [hcd]; exact h65)
     rw [if_pos h65, if_pos (show c.Code = 65 by rw [hcd]; exact h65), hck _ Que (by simp)]
     simp only [Option.bind_some]
     rw [Q8h]
     rfl
    ·rw [if_neg h65, if_neg (show ¬ c.Code = 65 by rw [hcd]; exact h65)]
     have hlw : w ≤ s.length := by omega
     rcases hh with rfl | hh
     ·rw [if_neg (by omega), hck _ Qpp (by simp)]
      simp only [Option.bind_some]
      have e0 : Jk c (Q17 (s.take 0) : Nat) = 0 := by
       unfold Jk
       rw [if_neg (by omega)]; rfl
      rw [Q8h, e0]
      rfl
     ·have hlt := Q5t (s.take w)
      rw [List.length_take, Nat.min_eq_left hlw] at hlt
      rw [if_pos (by omega), if_pos (by simp), if_pos (by simp [Nat.ble_eq]; omega), List.drop_zero, Qh3 N _ (by rw [List.length_take]; omega) (by omega)]
      simp only [Option.bind_some]
      rw [Qnm N c _ w hw' hh hlt (fun hk => by have := ht8 hk; omega)]
      simp only [Option.bind_some]
      rw [hck _ (Qdv hw' hh hlt).1 (by simp)]
      simp only [Option.bind_some]
      rw [Q8h]
      rfl
end
end Go.Av
namespace Go.Av
noncomputable section
open Go.Proofs
set_option maxRecDepth 100000
theorem Qof {P : Q0 → Prop} (h : ∀ v, (∀ x ∈ v.Items, P x) → P v) : ∀ (n : Nat) (v : Q0), v.sz ≤ n → P v
 | 0, v, hn => by have := v.sz_eq; omega
 | n + 1, v, hn => h v (fun x hx => Qof h n x (by have := v.sz_eq; have := Q0.szs_mem _ x hx; omega))
theorem Q0.ind {P : Q0 → Prop} (h : ∀ v, (∀ x ∈ v.Items, P x) → P v) (v : Q0) : P v := Qof h v.sz v (Nat.le_refl _)
end
end Go.Av
namespace Go.Av
noncomputable section
open Go.Proofs
set_option maxRecDepth 100000
def nnS (v : Q0) : Bool := (Z6 0 v).getD false
theorem Qpk (N : Nat) (v : Q0) : Z6 N v = some (nnS v) := by
 have h : Z6 N v = Z6 0 v := rfl
 rw [h]
 unfold nnS Z6
 simp only [Q9]
 repeat' split
 all_goals rfl
mutual
def Q0j : Q0 → Q0 → Bool
 | .mk k n t is, b => decide (k = b.Kind) && (decide (t = b.Text) && (decide (is.length = b.Items.length) && ((decide (n = b.N') || (nnS ⟨k, n, t, is⟩ && nnS b)) && Gm is b.Items)))
def Gm : List Q0 → List Q0 → Bool
 | [], _ => true
 | x :: l, y :: m => Q0j x y && Gm l m
 | _ :: _, [] => false
end
theorem Q8s (a b : Q0) : Q0j a b = (decide (a.Kind = b.Kind) && (decide (a.Text = b.Text) && (decide (a.Items.length = b.Items.length) && ((decide (a.N' = b.N') || (nnS a && nnS b)) && Gm a.Items b.Items)))) := by
 cases a; simp only [Q0j]
theorem Qg5 {R : Q0 → Q0 → Option Bool} {N : Nat} {a b : Q0} (hlen : a.Items.length = b.Items.length) (hb : a.Items.length < 4611686018427387904)
  (hR : ∀ y ∈ a.Items, ∀ z, R y z = some (Q0j y z)) : ∀ (n i : Nat), i ≤ a.Items.length → a.Items.length - i < n →
  Xx R N a b n (i : Int) = some (Gm (a.Items.drop i) (b.Items.drop i)) ∧ Xw R N a b n (i : Int) = some (Gm (a.Items.drop i) (b.Items.drop i))
 | 0, i, _, h => by omega
 | n + 1, i, h1, h2 => by
  simp only [Xx, Xw, Q9, Wm, Yg]
  by_cases hi : i < a.Items.length
  ·rw [if_pos (by omega), if_pos (by omega), X3, X3, List.getElem?_eq_getElem hi, List.getElem?_eq_getElem (show i < b.Items.length by omega)]
   simp only [Option.bind_some, hR _ (List.getElem_mem hi)]
   rw [Z5 _ (by omega)]
   obtain ⟨ih1, ih2⟩ := Qg5 (N := N) hlen hb hR n (i + 1) (by omega) (by omega)
   rw [List.drop_eq_getElem_cons hi, List.drop_eq_getElem_cons (show i < b.Items.length by omega), Gm]
   cases Q0j a.Items[i] b.Items[i] with
   | true =>
    simp only [Bool.not_true, Bool.false_eq_true, if_false, Bool.true_and]
    exact ⟨by exact_mod_cast ih1, by exact_mod_cast ih2⟩
   | false => simp
  ·rw [if_neg (by omega), if_neg (by omega), List.drop_of_length_le (by omega)]
   simp [Gm]
theorem Qgv : ∀ (N : Nat) (a b : Q0), a.sz < N → a.sz < 1000000000 → Wn N a b = some (Q0j a b)
 | 0, a, b, h, _ => by have := a.sz_eq; omega
 | N + 1, a, b, h, h2 => by
  have hs := a.sz_eq
  have hl := Q0.szs_len a.Items
  rw [Q8s]
  simp only [Wn, Uo, Q9, J0, Jh, Yg, Qpk, Option.bind_some]
  by_cases e1 : a.Kind = b.Kind
  ·by_cases e3 : a.Text = b.Text
   ·by_cases e4 : a.Items.length = b.Items.length
    ·rw [if_neg (by simp [e1]), if_neg (by simp [e3]), if_neg (by simp [e4])]
     obtain ⟨i1, i2⟩ := Qg5 (N := N) (R := Wn N) e4 (by omega) (fun y hy z => Qgv N y z (by have := Q0.szs_mem _ y hy; omega) (by have := Q0.szs_mem _ y hy; omega)) N 0 (by omega) (by omega)
     rw [show ((0 : Nat) : Int) = 0 from rfl] at i1 i2
     rw [i1, i2, List.drop_zero, List.drop_zero]
     simp only [e1, e3, e4, decide_true, Bool.true_and]
     by_cases e2 : a.N' = b.N'
     ·simp [e2]
     ·simp only [e2, ne_eq, not_false_eq_true, if_true, decide_false, Bool.false_or]
      cases nnS a <;> cases nnS b <;> simp
    ·rw [if_neg (by simp [e1]), if_neg (by simp [e3]), if_pos (by omega)]
     simp [e4]
   ·rw [if_neg (by simp [e1]), if_pos (by simpa using e3)]
    simp [e3]
  ·rw [if_pos (by simpa using e1)]
   simp [e1]
def AL (v : Q0) (i j : Nat) : Prop := ∃ x y, v.Items[i]? = some x ∧ v.Items[j]? = some y ∧ Q0j x y = true
open Classical in
noncomputable def Gn (v : Q0) : Int := if v.Kind ≠ 23 then 0 else if ∃ i j, 2 ≤ i ∧ i % 2 = 0 ∧ i < v.Items.length ∧ j < i ∧ j % 2 = 0 ∧ AL v i j then 16 else 0
open Classical in
theorem Qlp {N : Nat} {v : Q0} (hb : v.sz < 1000000000) (hN : v.sz < N) {k0 : Int → Option Int} {i : Nat} (hi : i < v.Items.length) (i2 : i % 2 = 0) : ∀ (n k : Nat), i - k < n → k % 2 = 0 → k ≤ i →
  Wi N k0 v (i : Int) n (k : Int) = if ∃ j, k ≤ j ∧ j < i ∧ j % 2 = 0 ∧ AL v i j then some 16 else k0 ((i + 2 : Nat) : Int)
 | 0, k, h, _, _ => by omega
 | n + 1, k, h, hk, hki => by
  have hs := v.sz_eq
  have hl := Q0.szs_len v.Items
  simp only [Wi, Q9, Wm, X3]
  by_cases hlt : k < i
  ·rw [if_pos (by omega), List.getElem?_eq_getElem hi, List.getElem?_eq_getElem (show k < v.Items.length by omega)]
   simp only [Option.bind_some]
   have hsz := Q0.szs_mem _ _ (List.getElem_mem hi)
   rw [Qgv N _ _ (by omega) (by omega)]
   simp only [Option.bind_some]
   cases hal : Q0j v.Items[i] v.Items[k] with
   | true =>
    rw [if_pos rfl, if_pos ⟨k, Nat.le_refl _, hlt, hk, _, _, List.getElem?_eq_getElem hi, List.getElem?_eq_getElem (by omega), hal⟩]
   | false =>
    rw [if_neg (by simp), Z5 _ (by omega)]
    have := Qlp (k0 := k0) hb hN hi i2 n (k + 2) (by omega) (by omega) (by omega)
    rw [show ((k : Int) + 2) = ((k + 2 : Nat) : Int) by push_cast; rfl, this]
    by_cases hx : ∃ j, k + 2 ≤ j ∧ j < i ∧ j % 2 = 0 ∧ AL v i j
    ·rw [if_pos hx]
     obtain ⟨j, j1, j2, j3, j4⟩ := hx
     rw [if_pos ⟨j, by omega, j2, j3, j4⟩]
    ·rw [if_neg hx, if_neg]
     rintro ⟨j, j1, j2, j3, j4⟩
     by_cases hjk : j = k
     ·subst hjk
      obtain ⟨x, y, x1, y1, z1⟩ := j4
      rw [List.getElem?_eq_getElem hi] at x1
      rw [List.getElem?_eq_getElem (by omega)] at y1
      cases x1; cases y1
      rw [hal] at z1; cases z1
     ·exact hx ⟨j, by omega, j2, j3, j4⟩
  ·rw [if_neg (by omega), Z5 _ (by omega), if_neg (by rintro ⟨j, j1, j2, _⟩; omega)]
   push_cast; rfl
open Classical in
theorem Qjj {N : Nat} {v : Q0} (hb : v.sz < 1000000000) (hN : v.sz < N) : ∀ (n i : Nat), v.Items.length - i < n → i % 2 = 0 → i ≤ v.Items.length + 2 →
  Yv N v n (i : Int) = some (if ∃ i' j, i ≤ i' ∧ i' % 2 = 0 ∧ i' < v.Items.length ∧ j < i' ∧ j % 2 = 0 ∧ AL v i' j then 16 else 0)
 | 0, i, h, _, _ => by omega
 | n + 1, i, h, hi, hle => by
  have hs := v.sz_eq
  have hl := Q0.szs_len v.Items
  simp only [Yv, Q9, Wm, Yg]
  by_cases hlt : i < v.Items.length
  ·rw [if_pos (by omega)]
   have h1 := Qlp (N := N) (k0 := Yv N v n) hb hN hlt hi N 0 (by omega) (by omega) (by omega)
   rw [show ((0 : Nat) : Int) = 0 from rfl] at h1
   rw [h1]
   by_cases hx : ∃ j, 0 ≤ j ∧ j < i ∧ j % 2 = 0 ∧ AL v i j
   ·rw [if_pos hx]
    obtain ⟨j, _, j2, j3, j4⟩ := hx
    rw [if_pos ⟨i, j, Nat.le_refl _, hi, hlt, j2, j3, j4⟩]
   ·rw [if_neg hx, Qjj hb hN n (i + 2) (by omega) (by omega) (by omega)]
    by_cases hy : ∃ i' j, i + 2 ≤ i' ∧ i' % 2 = 0 ∧ i' < v.Items.length ∧ j < i' ∧ j % 2 = 0 ∧ AL v i' j
    ·rw [if_pos hy]
     obtain ⟨i', j, a1, a2, a3⟩ := hy
     rw [if_pos ⟨i', j, by omega, a2, a3⟩]
    ·rw [if_neg hy, if_neg]
     rintro ⟨i', j, a1, a2, a3, a4, a5, a6⟩
     by_cases he : i' = i
     ·subst he; exact hx ⟨j, by omega, a4, a5, a6⟩
     ·exact hy ⟨i', j, by omega, a2, a3, a4, a5, a6⟩
  ·rw [if_neg (by omega), if_neg]
   rintro ⟨i', j, a1, a2, a3, _⟩; omega
theorem Qp5 (N : Nat) (v : Q0) (hb : v.sz < 1000000000) (hN : v.sz + 5 < N) : U8 N v = some (Gn v) := by
 have hs := v.sz_eq
 have hl := Q0.szs_len v.Items
 simp only [U8, Q9, J0, Gn]
 by_cases h : v.Kind ≠ 23
 ·rw [if_pos h, if_pos h]
 ·rw [if_neg h, if_neg h]
  exact Qjj hb (by omega) N 2 (by omega) (by omega) (by omega)
def Q5q (v : Q0) : Option Bool :=
 cond (Q3o .neq v.Text [])
 (some false)
 (cond (Q8 .eql v.Kind 24)
 (cond (Q8 .geq v.N' 1)
 (some (Q8 .leq v.N' 24))
 (some false))
 (cond (Q8 .neq v.N' 0)
 (some false)
 (cond (Q8 .eql v.Kind 25)
 (some (Q8 .eql ((Q0.rows v.Items).length : Int) 2))
 (cond (Q8 .eql v.Kind 23)
 (some (Q8 .eql ((((Q0.rows v.Items).length : Int) : Int).tmod 2) 0))
 (some true)))))
def Js (v : Q0) : Bool := (Q5q v).getD false
theorem Qi9 (v : Q0) : Q5q v = some (Js v) := by
 unfold Js Q5q
 simp only [Q9]
 repeat' split
 all_goals rfl
theorem Qle (N : Nat) (v : Q0) : Vo N v = some (Js v) := by
 rw [← Qi9 v]
 unfold Q5q Vo
 simp only [Q9]
 repeat' split
 all_goals rfl
mutual
noncomputable def Yx : Q0 → Int → Int
 | .mk k n t is, m => if k < 1 then 8 else if 25 < k then 8 else if k ≤ 21 then Xj ⟨k, n, t, is⟩ else if m = 0 then 14 else if Js ⟨k, n, t, is⟩ = false then 2 else if 1000 < is.length then 4 else Jz is k n (m - 1) (Gn ⟨k, n, t, is⟩)
noncomputable def Jz : List Q0 → Int → Int → Int → Int → Int
 | [], _, _, _, e => e
 | x :: l, k, n, m, e => if k = 24 ∧ IntKind.u64.wrap x.Kind ≠ n then 8 else if Yx x m ≠ 0 then Yx x m else Jz l k n m e
end
theorem Gp (v : Q0) (m : Int) : Yx v m = if v.Kind < 1 then 8 else if 25 < v.Kind then 8 else if v.Kind ≤ 21 then Xj v else if m = 0 then 14 else if Js v = false then 2 else if 1000 < v.Items.length then 4 else Jz v.Items v.Kind v.N' (m - 1) (Gn v) := by
 cases v; simp only [Yx]
inductive Fine : Q0 → Prop
 | mk (v : Q0) (hn : okU v.N') (ht : v.Text.length ≤ 300000) (hi : ∀ x ∈ v.Items, Fine x) : Fine v
theorem Fine.num {v : Q0} (h : Fine v) : okU v.N' := by cases h; assumption
theorem Fine.text {v : Q0} (h : Fine v) : v.Text.length ≤ 300000 := by cases h; assumption
theorem Fine.items {v : Q0} (h : Fine v) : ∀ x ∈ v.Items, Fine x := by cases h; assumption
theorem Qcs {R : Q0 → Int → Option Int} {N : Nat} {v : Q0} {m : Int} (hb : v.sz < 1000000000) (hN : v.sz + 5 < N) (hm : 1 ≤ m ∧ m ≤ 32) (hR : ∀ y ∈ v.Items, R y (m - 1) = some (Yx y (m - 1))) : ∀ (n i : Nat), i ≤ v.Items.length → v.Items.length - i < n →
  Yb R N v m n (i : Int) = some (Jz (v.Items.drop i) v.Kind v.N' (m - 1) (Gn v))
 | 0, i, _, h => by omega
 | n + 1, i, hi, hn => by
  have hs := v.sz_eq
  have hl := Q0.szs_len v.Items
  simp only [Yb, Q9, Wm, V5, J0, Yg, X3, Z5 (m - 1) (show _ by omega), Qp5 N v hb hN, Option.bind_some]
  by_cases h : i < v.Items.length
  ·rw [if_pos (by omega), List.getElem?_eq_getElem h, List.drop_eq_getElem_cons h, Jz]
   simp only [Option.bind_some, hR _ (List.getElem_mem h)]
   rw [Z5 _ (by omega)]
   have ih := Qcs (N := N) hb hN hm hR n (i + 1) (by omega) (by omega)
   rw [show ((i : Int) + 1) = ((i + 1 : Nat) : Int) by push_cast; rfl, ih]
   by_cases h24 : v.Kind = 24
   ·rw [if_pos h24]
    by_cases hw : IntKind.u64.wrap v.Items[i].Kind ≠ v.N'
    ·rw [if_pos hw, if_pos ⟨h24, hw⟩]
    ·rw [if_neg hw, if_neg (show ¬ (v.Kind = 24 ∧ IntKind.u64.wrap v.Items[i].Kind ≠ v.N') from fun hh => hw hh.2)]
     by_cases hc : Yx v.Items[i] (m - 1) ≠ 0
     ·rw [if_pos hc, if_pos hc]
     ·rw [if_neg hc, if_neg hc]
   ·rw [if_neg h24, if_neg (show ¬ (v.Kind = 24 ∧ IntKind.u64.wrap v.Items[i].Kind ≠ v.N') from fun hh => h24 hh.1)]
    by_cases hc : Yx v.Items[i] (m - 1) ≠ 0
    ·rw [if_pos hc, if_pos hc]
    ·rw [if_neg hc, if_neg hc]
  ·rw [if_neg (by omega), List.drop_of_length_le (by omega), Jz]
theorem Qcu : ∀ (N : Nat) (v : Q0) (m : Int), Fine v → v.sz + 300050 < N → v.sz < 1000000000 → 0 ≤ m → m ≤ 32 → Xl N v m = some (Yx v m)
 | 0, v, m, _, h, _, _, _ => by omega
 | N + 1, v, m, hv, h, h2, m0, m1 => by
  have hs := v.sz_eq
  have hl := Q0.szs_len v.Items
  rw [Gp]
  have ht := hv.text
  simp only [Xl, U0, Q9, Wm, Q47, Q9g, V5, Yg, Qbx N v hv.num (show v.Text.length < N by omega) (by omega), Qle, Option.bind_some]
  split
  ·rfl
  rename_i h1
  by_cases h25 : v.Kind > 25
  ·rw [if_pos h25, if_pos (show 25 < v.Kind from h25)]
  rw [if_neg h25, if_neg (show ¬ 25 < v.Kind from h25)]
  split
  ·rfl
  by_cases hm0 : m = 0
  ·rw [if_pos hm0, if_pos hm0]
  rw [if_neg hm0, if_neg hm0]
  cases Js v with
  | false => rfl
  | true =>
   simp only [Bool.not_true, Bool.false_eq_true, if_false, Bool.true_eq_false]
   by_cases hlen : 1000 < v.Items.length
   ·rw [if_pos (by omega), if_pos hlen]
   rw [if_neg (by omega), if_neg hlen]
   have := Qcs (R := Xl N) (N := N) (v := v) (m := m) h2 (by omega) ⟨by omega, m1⟩ (fun y hy => Qcu N y (m - 1) (hv.items y hy) (by have := Q0.szs_mem _ y hy; omega) (by have := Q0.szs_mem _ y hy; omega) (by omega) (by omega)) N 0 (by omega) (by omega)
   exact this
def Q8n (m : Int) : Bool := decide (0 ≤ m ∧ m ≤ 32)
theorem Qmi (N : Nat) (m : Int) : Wv N m = some (Q8n m) := by
 unfold Wv Q8n
 simp only [Q9, Q9d]
 by_cases h : 0 ≤ m
 ·rw [if_pos h]
  show some (decide (m ≤ 32)) = _
  rw [Option.some.injEq, decide_eq_decide]; omega
 ·rw [if_neg h, decide_eq_false (by omega)]
noncomputable def Q2y (v : Q0) (m : Int) : Int := if Q8n m = false then 2 else Yx v m
theorem Qjo (N : Nat) (v : Q0) (m : Int) (hv : Fine v) (h : v.sz + 300050 < N) (h2 : v.sz < 1000000000) : Vw N v m = some (Q2y v m) := by
 simp only [Vw, Qmi, Option.bind_some, Q9, Q2y]
 cases hr : Q8n m with
 | false => rfl
 | true =>
  have : 0 ≤ m ∧ m ≤ 32 := by simpa [Q8n] using hr
  simp only [Bool.not_true, Bool.false_eq_true, if_false, Bool.true_eq_false]
  rw [Qcu N v m hv h h2 this.1 this.2]; rfl
end
end Go.Av
namespace Go.Av
noncomputable section
open Go.Proofs
set_option maxRecDepth 100000
end
end Go.Av
namespace Go.Av
noncomputable section
open Go.Proofs
set_option maxRecDepth 100000
abbrev Rd := Q0 × Int × Int
def U9 (rd : List UInt8 → Rd) : Nat → List UInt8 → List Q0 → (List Q0 × List UInt8) × Int
 | 0, s, acc => ((acc, s), 0)
 | c + 1, s, acc => if (rd s).2.2 ≠ 0 then (([], []), (rd s).2.2) else U9 rd c (s.drop (rd s).2.1.toNat) (acc ++ [(rd s).1])
def Yq (data : Int → List UInt8 → Rd) : List UInt8 → Rd
 | [] => (G9, 0, 3)
 | b :: t => if (data (b.toNat : Int) t).2.2 ≠ 0 then (G9, 0, (data (b.toNat : Int) t).2.2) else ((data (b.toNat : Int) t).1, (data (b.toNat : Int) t).2.1 + 1, 0)
def Qeh (rd : List UInt8 → Rd) (s : List UInt8) : Rd := if (U9 rd 2 s []).2 ≠ 0 then (G9, 0, (U9 rd 2 s []).2) else (⟨25, 0, [], (U9 rd 2 s []).1.1⟩, ((s.length - (U9 rd 2 s []).1.2.length : Nat) : Int), 0)
noncomputable def Qcw (k num : Int) (q : (List Q0 × List UInt8) × Int) (tot : Nat) : Rd := if q.2 ≠ 0 then (G9, 0, if q.2 = 3 then 5 else q.2) else if q.1.2 ≠ [] then (G9, 0, 5)
 else if Gn ⟨k, num, [], q.1.1⟩ ≠ 0 then (G9, 0, Gn ⟨k, num, [], q.1.1⟩) else (⟨k, num, [], q.1.1⟩, (tot : Int), 0)
theorem Qo5 {k num e : Int} {tot : Nat} {x : List Q0 × List UInt8} (he : e ≠ 0) : Qcw k num (x, e) tot = (G9, 0, if e = 3 then 5 else e) := by
 unfold Qcw
 rw [if_pos (show (x, e).2 ≠ 0 from he)]
noncomputable def Qsn (data : Int → List UInt8 → Rd) (cnt tot : Nat) (k : Int) : List UInt8 → Rd
 | [] => (G9, 0, 5)
 | b :: t => if ofB (b.toNat : Int) = false ∨ b.toNat = 0 then (G9, 0, 8) else Qcw k (ofS (b.toNat : Int)).Kind (U9 (data (b.toNat : Int)) cnt t []) tot
noncomputable def Qnt (data : Int → List UInt8 → Rd) (c : Qh) (w : Nat) (body : List UInt8) (tot : Nat) : Rd :=
 if body.length < w then (G9, 0, 5)
 else if 1000 < Q17 (body.take w) then (G9, 0, 4)
 else if c.Kind = 23 ∧ Q17 (body.take w) % 2 ≠ 0 then (G9, 0, 5)
 else if c.Kind = 24 then Qsn data (Q17 (body.take w)) tot c.Kind (body.drop w)
 else Qcw c.Kind 0 (U9 (Yq data) (Q17 (body.take w)) (body.drop w) []) tot
noncomputable def Q55 (data : Int → List UInt8 → Rd) (c : Qh) (s : List UInt8) : Rd :=
 if s.length < c.Width.toNat then (G9, 0, 3)
 else if s.length - c.Width.toNat < Q17 (s.take c.Width.toNat) then (G9, 0, 3)
 else Qnt data c c.Width.toNat ((s.drop c.Width.toNat).take (Q17 (s.take c.Width.toNat))) (c.Width.toNat + Q17 (s.take c.Width.toNat))
noncomputable def V4 : Nat → Int → List UInt8 → Rd
 | 0, code, s => if ofB code = false then (G9, 0, 8) else if (ofS code).Items = false then Q94 code s else (G9, 0, 14)
 | m + 1, code, s => if ofB code = false then (G9, 0, 8) else if (ofS code).Items = false then Q94 code s
  else if (ofS code).Kind = 25 then Qeh (Yq (V4 m)) s else if (ofS code).Sized = false then (⟨(ofS code).Kind, 0, [], []⟩, 0, 0) else Q55 (V4 m) (ofS code) s
def Qrz (rd : List UInt8 → Rd) : Prop := ∀ s, s.length ≤ 600000 → (rd s).2.2 = 0 → 0 ≤ (rd s).2.1 ∧ (rd s).2.1 ≤ s.length ∧ (rd s).1.sz ≤ 1 + 1000 * (rd s).2.1.toNat
theorem Qqs (b : UInt8) : IntKind.i64.wrap ((b.toNat : Nat) : Int) = ((b.toNat : Nat) : Int) := by
 have h : b.toNat < 256 := b.toNat_lt
 exact Z5 _ (by omega)
theorem Qwa (i : Nat) (h : i < 1000000000) : IntKind.u64.wrap ((i : Int) + 1) = ((i + 1 : Nat) : Int) := by
 rw [show ((i : Int) + 1) = ((i + 1 : Nat) : Int) by push_cast; rfl]; exact Q0b _ (by omega)
end
end Go.Av
namespace Go.Av
noncomputable section
open Go.Proofs
set_option maxRecDepth 100000
def Qm9 (k : Int) : Bool := (X4 k).all (fun x => ofB x && (ofT x).1 == x && (ofT x).2.1 == k) && ((X4 k).zip (X4 k).tail).all (fun (x, y) => decide ((ofT x).2.2.1 ≤ (ofT y).2.2.1))
theorem Qlb : ((List.range 26).all fun k => Qm9 k) = true := by decide +kernel
theorem Qiu (k : Int) : Qm9 k = true := by
 by_cases h : k < 1 ∨ 25 < k
 ·simp [Qm9, Q0o k h]
 ·have := List.all_eq_true.1 Qlb k.toNat (by simp; omega)
  rwa [show ((k.toNat : Nat) : Int) = k by omega] at this
theorem Q03 (k x : Int) (h : x ∈ X4 k) : ofB x = true ∧ (ofS x).Code = x ∧ (ofS x).Kind = k := by
 have := Qiu k
 simp only [Qm9, Bool.and_eq_true, List.all_eq_true] at this
 have := this.1 x h
 simp only [beq_iff_eq] at this
 exact ⟨this.1.1, this.1.2, this.2⟩
end
end Go.Av
namespace Go.Av
noncomputable section
open Go.Proofs
set_option maxRecDepth 100000
end
end Go.Av
namespace Go.Av
noncomputable section
open Go.Proofs
set_option maxRecDepth 100000
theorem Qcj {c : Int} {v : Q0} (h : Vi c v = true) : Qb8 c v = (Jj (ofS c) v, 0) := by
 unfold Qb8
 rw [if_neg (show ¬ (Xj v ≠ 0) by simp [(Gz h).2.2.1]), h]; rfl
theorem Qr5 {c : Int} {v : Q0} (h : Vi c v = false) : (Qb8 c v).2 ≠ 0 := by
 unfold Qb8
 split
 ·assumption
 ·simp
theorem Qvn {code : Int} {v : Q0} {k : Nat} (hf : Vi code v = true) (hk : k < (Jj (ofS code) v).length) : Q94 code ((Jj (ofS code) v).take k) = (G9, 0, 3) := by
 have hlen := Q3e hf
 obtain ⟨f1, f2, f3, f4⟩ := Gz hf
 obtain ⟨c1, c2, c3, c4, c5, c6, c7⟩ := Wx f3
 have hw := Q6q code f1
 have hi := Vn hw (by omega)
 have hw0 : ((Jj (ofS code) v).take k).length = k := by rw [List.length_take]; omega
 unfold Q94
 rw [f1, hi, if_neg (by simp), hw0]
 split
 ·rfl
 rename_i hkw
 cases hw.shape hi with
 | sized w hs hw' h12 hk2 hc =>
  simp only [hs, hw', if_true, Int.toNat_natCast] at hlen hkw ⊢
  have hkw : w ≤ k := by omega
  have e1 : ((Jj (ofS code) v).take k).take w = Uc v.Text.length w := by
   rw [List.take_take, Nat.min_eq_left hkw]
   unfold Jj
   rw [hs, if_pos rfl, hw', Int.toNat_natCast, List.take_left' (X6 _ _)]
  have e3 : v.Text.length % 256 ^ w = v.Text.length := by
   apply Nat.mod_eq_of_lt
   unfold Q2f at f4
   rw [if_neg hc, hs, if_pos rfl, hw'] at f4
   rcases h12 with rfl | rfl
   ·simp at f4; omega
   ·omega
  rw [e1, Q4g, e3, if_pos (by omega)]
 | wide hs hw' hk2 hc =>
  simp only [hs, hw', Bool.false_eq_true, if_false] at hlen hkw
  have : (16 : Int).toNat = 16 := rfl
  omega
 | num w hs hw' hh ht hc hbb =>
  simp only [hs, hw', Bool.false_eq_true, if_false] at hlen hkw
  omega
end
end Go.Av
namespace Go.Av
noncomputable section
open Go.Proofs
set_option maxRecDepth 100000
def Qqu (k : Int) : Bool := decide ((X4 k).Pairwise (fun x y => (ofT x).2.2.1 ≤ (ofT y).2.2.1))
theorem Qf2 : ((List.range 26).all fun k => Qqu k) = true := by decide +kernel
theorem Qek (k : Int) : (X4 k).Pairwise (fun x y => (ofS x).Width ≤ (ofS y).Width) := by
 by_cases h : k < 1 ∨ 25 < k
 ·rw [Q0o k h]; exact .nil
 ·have := List.all_eq_true.1 Qf2 k.toNat (by simp; omega)
  rw [show ((k.toNat : Nat) : Int) = k by omega] at this
  exact of_decide_eq_true this
theorem longer {a b : Int} {v : Q0} (ha : Vi a v = true) (hb : Vi b v = true) (hw : (ofS a).Width ≤ (ofS b).Width) : (Jj (ofS a) v).length ≤ (Jj (ofS b) v).length := by
 rw [Q3e ha, Q3e hb]
 obtain ⟨f1, f2, f3, f4⟩ := Gz ha
 obtain ⟨g1, g2, g3, g4⟩ := Gz hb
 obtain ⟨c1, c2, _⟩ := Wx f3
 have wa := Q6q a f1
 have wb := Q6q b g1
 have hs : (ofS a).Sized = true → (ofS b).Sized = true := fun hs => by
  obtain ⟨_, q1, q2, _⟩ := wa.sized (Vn wa (by omega)) hs
  cases wb.shape (Vn wb (by omega)) with
  | sized w hs hw' h12 hk2 hc => exact hs
  | wide hs hw' hk2 hc => omega
  | num w hs hw' hh ht hc hbb =>
   have := Q82 (k := (ofS b).Kind) (by omega)
   rw [ht] at this; cases this
 cases h : (ofS a).Sized with
 | true => rw [hs h]; simp only [if_true]; omega
 | false => simp only [Bool.false_eq_true, if_false]; omega
theorem Qna (c : Int) (v : Q0) : Q8 .eql (Qb8 c v).2 0 = Vi c v := by
 cases h : Vi c v with
 | true => rw [Qcj h]; rfl
 | false =>
  have := Qr5 h
  have : ¬ (Q8 .eql (Qb8 c v).2 0 = true) := by rw [V5]; exact this
  exact Bool.eq_false_iff.2 this
end
end Go.Av
