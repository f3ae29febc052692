/- The law. Part of a proof of a given statement: for every input the law returns true and the arguments read as before; no condition beyond the given row. -/
import Derived.Test.YtegedmcbfmfjeaaGreatDoorLiftF4
import Derived.Test.YtegedmcbfmfjeaaGreatDoorAvLift
import Derived.Test.YtegedmcbfmfjeaaGreatDoorOks
namespace Go.Av
noncomputable section
open Go.Proofs
theorem Qd {α : Type} (b : Bool) (x y : α) : cond b x y = if b = true then x else y := by cases b <;> rfl
@[simp] theorem V0 (x y : Int) : (Q7 .lss x y = true) = (x < y) := by simp [Q7]
@[simp] theorem Qbz (x y : Int) : (Q7 .leq x y = true) = (x ≤ y) := by simp [Q7]
@[simp] theorem Q1g (x y : Int) : (Q7 .gtr x y = true) = (x > y) := by simp [Q7]
@[simp] theorem Q60 (x y : Int) : (Q7 .geq x y = true) = (x ≥ y) := by simp [Q7]
@[simp] theorem Ve (x y : Int) : (Q7 .eql x y = true) = (x = y) := by simp [Q7]
@[simp] theorem Wt (x y : Int) : (Q7 .neq x y = true) = (x ≠ y) := by simp [Q7]
theorem Zm (x : Int) (h : -9223372036854775808 ≤ x ∧ x ≤ 9223372036854775807) : IntKind.wrap .i64 x = x := IntWalk.i64_in x h
mutual
def Q0.sz : Q0 → Nat
 | .mk _ _ _ is => 1 + Q0.szs is
def Q0.szs : List Q0 → Nat
 | [] => 0
 | v :: l => v.sz + Q0.szs l
end
theorem Q0.sz_eq (v : Q0) : v.sz = 1 + Q0.szs v.Items := by cases v; simp [Q0.sz]
theorem Q0.szs_len : ∀ l : List Q0, l.length ≤ Q0.szs l
 | [] => by simp
 | v :: l => by
  have h1 := Q0.szs_len l
  have h2 := Q0.sz_eq v
  simp only [Q0.szs, List.length_cons]
  omega
theorem Q0.szs_mem : ∀ (l : List Q0) (v : Q0), v ∈ l → v.sz ≤ Q0.szs l
 | [], v, h => by cases h
 | u :: l, v, h => by
  simp only [Q0.szs]
  rcases List.mem_cons.1 h with rfl | h
  ·omega
  ·have := Q0.szs_mem l v h; omega
noncomputable instance : DecidableEq Q0 := fun a b => Classical.propDecidable (a = b)
theorem Vc (l : List Q0) : (Q0.rows l).length = l.length := by rw [Q0.rows_eq, Vh]
theorem U3 {α : Type} (l : List α) (i : Nat) : idx l (i : Int) = l[i]? := rfl
theorem Q5l {R : Q0 → Q0 → Option Bool} {N : Nat} {a b : Q0} (hlen : a.Items.length = b.Items.length) (hb : a.Items.length < 4611686018427387904)
  (hR : ∀ y ∈ a.Items, ∀ z, R y z = some (decide (y = z))) : ∀ (n i : Nat), i ≤ a.Items.length → a.Items.length - i < n →
  Y2 R N a b n (i : Int) = some (decide (a.Items.drop i = b.Items.drop i))
 | 0, i, _, h => by omega
 | n + 1, i, h1, h2 => by
  simp only [Y2, Qd, V0, Vc]
  by_cases hi : i < a.Items.length
  ·rw [if_pos (by omega), U3, U3, List.getElem?_eq_getElem hi, List.getElem?_eq_getElem (show i < b.Items.length by omega)]
   simp only [Option.bind_some, hR _ (List.getElem_mem hi)]
   rw [Zm _ (by omega)]
   have ih := Q5l (N := N) hlen hb hR n (i + 1) (by omega) (by omega)
   rw [List.drop_eq_getElem_cons hi, List.drop_eq_getElem_cons (show i < b.Items.length by omega)]
   by_cases he : a.Items[i] = b.Items[i]
   ·rw [← he]; simp only [decide_true, Bool.not_true, Bool.false_eq_true, if_false, List.cons.injEq, true_and]
    exact_mod_cast ih
   ·have hne : ¬ (a.Items[i] :: List.drop (i + 1) a.Items = b.Items[i] :: List.drop (i + 1) b.Items) := fun e => he (List.cons.inj e).1
    simp only [he, decide_false, Bool.not_false, if_true]
    rw [decide_eq_false hne]
  ·rw [if_neg (by omega), List.drop_of_length_le (by omega), List.drop_of_length_le (by omega)]
   simp
theorem J4 (x y : List UInt8) : (Q1q .neq x y = true) = (x ≠ y) := by simp [Q1q]
theorem Q5f : ∀ (N : Nat) (a b : Q0), a.sz < N → a.sz < 1000000000 → Y6 N a b = some (decide (a = b))
 | 0, a, b, h, _ => by have := a.sz_eq; omega
 | N + 1, a, b, h, h2 => by
  have hs := a.sz_eq
  have hl := Q0.szs_len a.Items
  simp only [Y6, Wn, Qd, Wt, J4, Vc]
  by_cases e1 : a.Kind = b.Kind
  ·by_cases e2 : a.N' = b.N'
   ·by_cases e3 : a.Text = b.Text
    ·by_cases e4 : a.Items.length = b.Items.length
     ·rw [if_neg (by simp [e1]), if_neg (by simp [e2]), if_neg (by simp [e3]), if_neg (by simp [e4])]
      have := Q5l (N := N) (R := Y6 N) e4 (by omega) (fun y hy z => Q5f N y z (by have := Q0.szs_mem _ y hy; omega) (by have := Q0.szs_mem _ y hy; omega)) N 0 (by omega) (by omega)
      rw [show (0 : Int) = ((0 : Nat) : Int) from rfl, this]
      cases a; cases b; simp_all
     ·rw [if_neg (by simp [e1]), if_neg (by simp [e2]), if_neg (by simp [e3]), if_pos (by omega)]
      have : a ≠ b := fun e => e4 (by rw [e])
      simp [this]
    ·rw [if_neg (by simp [e1]), if_neg (by simp [e2]), if_pos (by simpa using e3)]
     have : a ≠ b := fun e => e3 (by rw [e])
     simp [this]
   ·rw [if_neg (by simp [e1]), if_pos (by simpa using e2)]
    have : a ≠ b := fun e => e2 (by rw [e])
    simp [this]
  ·rw [if_pos (by simpa using e1)]
   have : a ≠ b := fun e => e1 (by rw [e])
   simp [this]
end
end Go.Av
namespace Go.Av
noncomputable section
open Go.Proofs
theorem Q0.szs_app : ∀ l m : List Q0, Q0.szs (l ++ m) = Q0.szs l + Q0.szs m
 | [], m => by simp [Q0.szs]
 | v :: l, m => by simp [Q0.szs, Q0.szs_app l m]; omega
end
end Go.Av
namespace Go.Av
noncomputable section
open Go.Proofs
def Ul (k : Int) : Int × Bool :=
 if k = 2 then (1, false) else if k = 3 then (8, false) else if k = 4 then (16, false)
 else if k = 5 ∨ k = 11 ∨ k = 13 ∨ k = 16 then (32, false) else if k = 6 ∨ k = 12 ∨ k = 14 then (64, false)
 else if k = 7 then (8, true) else if k = 8 then (16, true) else if k = 9 then (32, true) else if k = 10 ∨ k = 17 then (64, true) else (0, false)
theorem Qiy (N : Nat) (k : Int) : Vs N k = some (Ul k) := by
 by_cases h2 : k = 2
 ·subst h2; rfl
 by_cases h3 : k = 3
 ·subst h3; rfl
 by_cases h4 : k = 4
 ·subst h4; rfl
 by_cases h5 : k = 5
 ·subst h5; rfl
 by_cases h11 : k = 11
 ·subst h11; rfl
 by_cases h13 : k = 13
 ·subst h13; rfl
 by_cases h16 : k = 16
 ·subst h16; rfl
 by_cases h6 : k = 6
 ·subst h6; rfl
 by_cases h12 : k = 12
 ·subst h12; rfl
 by_cases h14 : k = 14
 ·subst h14; rfl
 by_cases h7 : k = 7
 ·subst h7; rfl
 by_cases h8 : k = 8
 ·subst h8; rfl
 by_cases h9 : k = 9
 ·subst h9; rfl
 by_cases h10 : k = 10
 ·subst h10; rfl
 by_cases h17 : k = 17
 ·subst h17; rfl
 unfold Vs Ul
 simp [Qd, h2, h3, h4, h5, h11, h13, h16, h6, h12, h14, h7, h8, h9, h10, h17]
def G7 (k : Int) : Bool := decide (k = 15 ∨ k = 18 ∨ k = 19 ∨ k = 20 ∨ k = 21)
theorem Qgl (N : Nat) (k : Int) : Wr N k = some (G7 k) := by
 unfold Wr G7
 simp only [Qd, Ve]
 repeat' split
 all_goals simp_all
def Q8o (n : Int) : Bool := decide (n ≤ 1114111 ∧ ¬ (55296 ≤ n ∧ n ≤ 57343))
theorem Qcp (N : Nat) (n : Int) (h0 : 0 ≤ n) : Wz N n = some (Q8o n) := by
 unfold Wz W9 Q8o
 simp only [Qd, Qbz, V0]
 by_cases h : n ≤ 1114111
 ·have hw : IntKind.wrap .i32 n = n := by
   simp only [IntKind.wrap, IntKind.bits, IntKind.signed]
   simp
   omega
  rw [if_pos h, hw]
  repeat' split
  all_goals (simp; omega)
 ·rw [if_neg h]
  simp [h]
def s64 (n : Int) : Int := if n < 9223372036854775808 then n else n - 18446744073709551616
theorem Ql5 (n : Int) (h0 : 0 ≤ n) (h1 : n < 18446744073709551616) : IntKind.i64.wrap n = s64 n := by
 unfold s64
 split
 ·exact IntWalk.i64_in n (by omega)
 ·simp only [IntKind.wrap, IntKind.bits, IntKind.signed]
  simp
  omega
def Jy (n bits : Int) (signed : Bool) : Bool := if signed then decide (-(2 ^ (bits.toNat - 1)) ≤ s64 n ∧ s64 n < 2 ^ (bits.toNat - 1)) else decide (n < 2 ^ bits.toNat)
theorem Q8z {m k : Nat} (h : m ≤ k) : (2 : Int) ^ m ≤ 2 ^ k := by
 have := Nat.pow_le_pow_right (n := 2) (by omega) h
 exact_mod_cast this
theorem two_pow_pos (m : Nat) : (1 : Int) ≤ 2 ^ m := by
 have := Nat.one_le_two_pow (n := m)
 exact_mod_cast this
theorem Qod (k : Int) (h0 : 0 ≤ k) (h1 : k ≤ 63) : IntKind.i64.wrap (-1 * 2 ^ min (IntKind.i64.wrap k).toNat IntKind.i64.bits) = -(2 ^ k.toNat) := by
 have e1 : IntKind.i64.wrap k = k := IntWalk.i64_in _ (by omega)
 have e2 : min k.toNat IntKind.i64.bits = k.toNat := by simp [IntKind.bits]; omega
 have h2 := Q8z (m := k.toNat) (k := 63) (by omega)
 have h3 := two_pow_pos k.toNat
 rw [e1, e2, IntWalk.i64_in _ (by omega)]
 omega
theorem Qeb (N : Nat) (n bits : Int) (signed : Bool) (h0 : 0 ≤ n) (h1 : n < 18446744073709551616) (hb0 : 0 ≤ bits) (hb1 : bits ≤ 64) (hs : signed = true → 1 ≤ bits) :
  V4 N n bits signed = some (Jy n bits signed) := by
 unfold V4
 cases signed
 ·simp only [Qd, Ve, Bool.false_eq_true, if_false, decide_eq_true_eq]
  by_cases h : bits = 64
  ·rw [if_pos h]
   subst h
   simp only [Jy, Bool.false_eq_true, if_false, Option.some.injEq]
   exact (decide_eq_true (by simpa using h1)).symm
  ·rw [if_neg h, if_pos hb0]
   simp only [Jy, Bool.false_eq_true, if_false, Option.some.injEq, Q7, Q6a]
   have e2 : min bits.toNat IntKind.u64.bits = bits.toNat := by simp [IntKind.bits]; omega
   rw [e2, Bool.eq_iff_iff]
   simp only [beq_iff_eq, decide_eq_true_eq]
   have h3 := two_pow_pos bits.toNat
   rw [Int.fdiv_eq_ediv_of_nonneg _ (by omega)]
   constructor
   ·intro h4
    have := Int.lt_ediv_add_one_mul_self n (show (0 : Int) < 2 ^ bits.toNat by omega)
    rw [h4] at this
    simpa using this
   ·intro h4
    exact Int.ediv_eq_zero_of_lt h0 h4
 ·have hs := hs rfl
  have e1 : IntKind.i64.wrap (bits - 1) = bits - 1 := IntWalk.i64_in _ (by omega)
  have e2 := Qod (bits - 1) (by omega) (by omega)
  have e3 := Ql5 n h0 h1
  have h2 := Q8z (m := (bits - 1).toNat) (k := 63) (by omega)
  have h3 := two_pow_pos (bits - 1).toNat
  have e4 : (bits - 1).toNat = bits.toNat - 1 := by omega
  rw [e1] at e2
  simp only [Qd, Q60, if_true, decide_eq_true_eq, Jh, e1, e2, e3]
  rw [if_pos (by omega), IntWalk.i64_in (-2 ^ (bits - 1).toNat + 1) (by omega), IntWalk.i64_in (0 - (-2 ^ (bits - 1).toNat + 1)) (by omega)]
  rw [e4] at h2 h3 ⊢
  split
  ·rename_i h
   simp only [Jy, if_true, Option.some.injEq, Q7, decide_eq_decide]
   omega
  ·rename_i h
   simp only [Jy, if_true, Option.some.injEq]
   exact (decide_eq_false (by omega)).symm
end
end Go.Av
namespace Go.Av
noncomputable section
def Vo (s : List UInt8) : Nat := s.foldl (fun a b => a * 256 + b.toNat) 0
theorem Q3w (s : List UInt8) (b : UInt8) : Vo (s ++ [b]) = Vo s * 256 + b.toNat := by simp [Vo]
def Q98 : Nat → Nat → List UInt8
 | _, 0 => []
 | n, w + 1 => Q98 (n / 256) w ++ [UInt8.ofNat (n % 256)]
theorem Q2g : ∀ (w n : Nat), (Q98 n w).length = w
 | 0, _ => rfl
 | w + 1, n => by simp [Q98, Q2g w]
theorem Q64 : ∀ (w n : Nat), Vo (Q98 n w) = n % 256 ^ w
 | 0, n => by simp [Q98, Vo, Nat.mod_one]
 | w + 1, n => by
  rw [Q98, Q3w, Q64 w, Nat.pow_succ, Nat.mul_comm (256 ^ w) 256, Nat.mod_mul]
  have : (UInt8.ofNat (n % 256)).toNat = n % 256 := by simp
  rw [this]; omega
theorem Qm9 {α : Type} {P : List α → Prop} (h0 : P []) (h1 : ∀ s b, P s → P (s ++ [b])) (s : List α) : P s := by
 have h : ∀ t : List α, P t.reverse := by
  intro t
  induction t with
  | nil => exact h0
  | cons b t ih => rw [List.reverse_cons]; exact h1 _ _ ih
 have := h s.reverse
 rwa [List.reverse_reverse] at this
theorem Jn : ∀ (s : List UInt8), Vo s < 256 ^ s.length := by
 refine Qm9 (by simp [Vo]) (fun s b ih => ?_)
 ·rw [Q3w, List.length_append, List.length_singleton, Nat.pow_succ]
  have := b.toNat_lt
  simp at this
  omega
theorem Qit : ∀ (s : List UInt8), Q98 (Vo s) s.length = s := by
 refine Qm9 rfl (fun s b ih => ?_)
 ·rw [Q3w, List.length_append, List.length_singleton, Q98]
  have hb := b.toNat_lt
  simp at hb
  rw [show (Vo s * 256 + b.toNat) / 256 = Vo s by omega, ih, show (Vo s * 256 + b.toNat) % 256 = b.toNat by omega]
  simp
theorem Qf8 : ∀ (w n : Nat), Q98 (n % 256 ^ w) w = Q98 n w
 | 0, n => rfl
 | w + 1, n => by
  have h := Qf8 w (n / 256)
  rw [Q98, Q98, Nat.pow_succ, Nat.mul_comm (256 ^ w) 256, Nat.mod_mul]
  rw [show (n % 256 + 256 * (n / 256 % 256 ^ w)) / 256 = n / 256 % 256 ^ w by omega, h, show (n % 256 + 256 * (n / 256 % 256 ^ w)) % 256 = n % 256 by omega]
end
end Go.Av
namespace Go.Av
noncomputable section
open Go.Proofs
def inB (s : List UInt8) (i lo hi : Nat) : Bool := match s[i]? with
 | some b => decide (lo ≤ b.toNat ∧ b.toNat ≤ hi)
 | none => false
def cpN (s : List UInt8) : Nat := match s with
 | [] => 0
 | c :: _ => if c.toNat < 128 then 1
  else if 194 ≤ c.toNat ∧ c.toNat ≤ 223 then (if inB s 1 128 191 then 2 else 0)
  else if c.toNat = 224 then (if inB s 1 160 191 && inB s 2 128 191 then 3 else 0)
  else if c.toNat = 237 then (if inB s 1 128 159 && inB s 2 128 191 then 3 else 0)
  else if 225 ≤ c.toNat ∧ c.toNat ≤ 239 then (if inB s 1 128 191 && inB s 2 128 191 then 3 else 0)
  else if c.toNat = 240 then (if inB s 1 144 191 && inB s 2 128 191 && inB s 3 128 191 then 4 else 0)
  else if 241 ≤ c.toNat ∧ c.toNat ≤ 243 then (if inB s 1 128 191 && inB s 2 128 191 && inB s 3 128 191 then 4 else 0)
  else if c.toNat = 244 then (if inB s 1 128 143 && inB s 2 128 191 && inB s 3 128 191 then 4 else 0)
  else 0
def Q4p : Nat → List UInt8 → Bool
 | 0, s => s.isEmpty
 | n + 1, s => if s.isEmpty then true else match cpN s with
  | 0 => false
  | k + 1 => Q4p n (s.drop (k + 1))
def Wi (s : List UInt8) : Bool := Q4p s.length s
theorem Qch : ∀ (n m : Nat) (s : List UInt8), s.length ≤ n → s.length ≤ m → Q4p n s = Q4p m s
 | 0, 0, s, _, _ => rfl
 | 0, m + 1, s, h, _ => by
  have : s = [] := List.length_eq_zero_iff.1 (by omega)
  subst this; simp [Q4p]
 | n + 1, 0, s, _, h => by
  have : s = [] := List.length_eq_zero_iff.1 (by omega)
  subst this; simp [Q4p]
 | n + 1, m + 1, s, h1, h2 => by
  simp only [Q4p]
  cases s with
  | nil => rfl
  | cons c r =>
   simp only [List.isEmpty_cons, Bool.false_eq_true, if_false]
   split
   ·rfl
   ·exact Qch n m _ (by simp at h1 ⊢; omega) (by simp at h2 ⊢; omega)
theorem Qjv : Wi [] = true := rfl
theorem Q26 (s : List UInt8) (hne : s ≠ []) (h : cpN s = 0) : Wi s = false := by
 cases s with
 | nil => exact absurd rfl hne
 | cons c r => unfold Wi; simp only [List.length_cons, Q4p, h]; rfl
theorem Q0a (s : List UInt8) (k : Nat) (h : cpN s = k + 1) : Wi s = Wi (s.drop (k + 1)) := by
 cases s with
 | nil => simp [cpN] at h
 | cons c r =>
  unfold Wi
  simp only [List.length_cons, Q4p, h, List.isEmpty_cons, Bool.false_eq_true, if_false]
  exact Qch _ _ _ (by simp) (by simp)
theorem Q38 : ∀ (k : Nat) (s : List UInt8), (∀ b ∈ s.take k, b < 128) → Wi s = Wi (s.drop k)
 | 0, s, _ => by simp
 | k + 1, [], _ => by simp
 | k + 1, c :: r, h => by
  have hc : c < 128 := h c (by simp)
  have h1 : cpN (c :: r) = 1 := by simp only [cpN]; rw [if_pos (by exact hc)]
  rw [Q0a (c :: r) 0 h1]
  simpa using Q38 k r (fun b hb => h b (by simp [hb]))
def Q1l (s : List UInt8) : Bool := s.all fun b => decide (b.toNat < 128)
def Q6h (k n : Int) : Bool := Jy n (Ul k).1 (Ul k).2 && (k != 16 || Q8o n)
def Qbc (k : Int) (t : List UInt8) : Int := if k = 20 then (if Wi t then 0 else 6) else if k = 21 then (if Q1l t then 0 else 6) else 0
def Jg (v : Q0) : Int :=
 if v.Kind < 1 ∨ 21 < v.Kind then 8
 else if Q6h v.Kind v.N' = false ∨ v.Items ≠ [] then 2
 else if G7 v.Kind = false then (if v.Text ≠ [] then 2 else 0)
 else if (v.Kind = 15 ∨ v.Kind = 18) ∧ v.Text.length ≠ 16 then 2
 else if 1048576 < v.Text.length then 4 else Qbc v.Kind v.Text
def Q5a (c : Qh) (v : Q0) : Bool :=
 if c.Code = 65 then decide (v.N' = 1) else if c.Sized then decide (c.Width = 4 ∨ v.Text.length ≤ 255)
 else if c.Width = 0 then decide (v.N' = 0) else if c.Width = 1 then Jy v.N' 8 (Ul c.Kind).2 else true
def Q4w (code : Int) (v : Q0) : Bool := ofB code && decide ((ofS code).Kind = v.Kind) && decide (Jg v = 0) && Q5a (ofS code) v
def Gk (c : Qh) (v : Q0) : List UInt8 :=
 if c.Sized then Q98 v.Text.length c.Width.toNat ++ v.Text else if c.Width = 16 then v.Text else Q98 v.N'.toNat c.Width.toNat
def Qsr (code : Int) (v : Q0) : List UInt8 × Int :=
 if Jg v ≠ 0 then ([], Jg v) else if Q4w code v = false then ([], 2) else (Gk (ofS code) v, 0)
def Vz (c : Qh) (n : Int) : Int := if (Ul c.Kind).2 = true ∧ 0 < c.Width ∧ 2 ^ (8 * c.Width.toNat - 1) ≤ n then n + (18446744073709551616 - 2 ^ (8 * c.Width.toNat)) else n
def Jt : Q0 := ⟨0, 0, [], []⟩
def Qh4 (v : Q0) (n : Int) : Q0 × Int × Int := if Jg v = 0 then (v, n, 0) else (Jt, 0, if Jg v = 2 then 5 else Jg v)
def Q65 (code : Int) (s : List UInt8) : Q0 × Int × Int :=
 if ofB code = false ∨ (ofS code).Items = true then (Jt, 0, 8)
 else if (s.length : Int) < (ofS code).Width then (Jt, 0, 3)
 else if (ofS code).Sized = true then
  if s.length - (ofS code).Width.toNat < Vo (s.take (ofS code).Width.toNat) then (Jt, 0, 3)
  else Qh4 ⟨(ofS code).Kind, 0, (s.drop (ofS code).Width.toNat).take (Vo (s.take (ofS code).Width.toNat)), []⟩ ((ofS code).Width + Vo (s.take (ofS code).Width.toNat))
 else if (ofS code).Width = 16 then Qh4 ⟨(ofS code).Kind, 0, s.take 16, []⟩ 16
 else if (ofS code).Code = 65 then Qh4 ⟨(ofS code).Kind, 1, [], []⟩ 0
 else Qh4 ⟨(ofS code).Kind, Vz (ofS code) (Vo (s.take (ofS code).Width.toNat)), [], []⟩ (ofS code).Width
end
end Go.Av
namespace Go.Av
noncomputable section
open Go.Proofs
set_option maxRecDepth 100000
def Vf : List UInt8 → Nat
 | [] => 0
 | b :: r => b.toNat + 256 * Vf r
theorem Qel : ∀ (s : List UInt8) (k : Nat), s.length ≤ k → Vf s < 256 ^ k
 | [], k, _ => Nat.pow_pos (by omega)
 | b :: r, 0, h => by simp at h
 | b :: r, k + 1, h => by
  have h1 := Qel r k (by simpa using h)
  have h2 : b.toNat < 256 := b.toNat_lt
  rw [Vf, Nat.pow_succ]
  omega
theorem Q80 (a b : Nat) (n m : Nat) (ha : a < 2 ^ n) (hb : b < 2 ^ m) (hn : n + m ≤ 64) :
  IntKind.u64.wrap (((BitVec.ofInt IntKind.u64.bits (a : Int) ||| BitVec.ofInt IntKind.u64.bits (IntKind.u64.wrap ((b : Int) * 2 ^ min n IntKind.u64.bits))).toNat : Nat) : Int) = ((a + 2 ^ n * b : Nat) : Int) := by
 have h64 : IntKind.u64.bits = 64 := rfl
 have hw : ∀ z : Int, IntKind.u64.wrap z = z % 18446744073709551616 := fun z => by simp [IntKind.wrap, IntKind.bits, IntKind.signed]
 have hnn : min n 64 = n := by omega
 have hp : 2 ^ n * b < 2 ^ 64 := by
  calc 2 ^ n * b < 2 ^ n * 2 ^ m := Nat.mul_lt_mul_of_pos_left hb (Nat.two_pow_pos n)
   _ = 2 ^ (n + m) := (Nat.pow_add 2 n m).symm
   _ ≤ 2 ^ 64 := Nat.pow_le_pow_right (by omega) hn
 have ha64 : a < 2 ^ 64 := Nat.lt_of_lt_of_le ha (Nat.pow_le_pow_right (by omega) (by omega))
 have e1 : ((b : Int) * 2 ^ n) = ((2 ^ n * b : Nat) : Int) := by push_cast; exact Int.mul_comm _ _
 rw [h64, hnn, e1, hw, hw]
 have e2 : ((2 ^ n * b : Nat) : Int) % 18446744073709551616 = ((2 ^ n * b : Nat) : Int) := by
  rw [Int.emod_eq_of_lt (by omega) (by have : (2 : Nat) ^ 64 = 18446744073709551616 := rfl; omega)]
 rw [e2, BitVec.ofInt_natCast, BitVec.ofInt_natCast, BitVec.toNat_or, BitVec.toNat_ofNat, BitVec.toNat_ofNat, Nat.mod_eq_of_lt ha64, Nat.mod_eq_of_lt hp]
 have e3 : a ||| 2 ^ n * b = a + 2 ^ n * b := by
  have := Nat.shiftLeft_add_eq_or_of_lt ha b
  rw [Nat.shiftLeft_eq, Nat.mul_comm] at this
  rw [Nat.or_comm, ← this, Nat.add_comm]
 rw [e3]
 have e4 : a + 2 ^ n * b < 18446744073709551616 := by
  have hb2 : b + 1 ≤ 2 ^ m := hb
  have : 2 ^ n * (b + 1) ≤ 2 ^ n * 2 ^ m := Nat.mul_le_mul_left _ hb2
  rw [← Nat.pow_add] at this
  have h5 : 2 ^ (n + m) ≤ 2 ^ 64 := Nat.pow_le_pow_right (by omega) hn
  rw [Nat.mul_add, Nat.mul_one] at this
  have : (2 : Nat) ^ 64 = 18446744073709551616 := rfl
  omega
 rw [Int.emod_eq_of_lt (by omega) (by omega)]
theorem Qli (b : UInt8) : IntKind.u64.wrap ((b.toNat : Nat) : Int) = ((b.toNat : Nat) : Int) := by
 have := b.toNat_lt
 simp only [IntKind.wrap, IntKind.bits, IntKind.signed]
 simp
 omega
theorem Qo8 (N : Nat) (b0 b1 b2 b3 b4 b5 b6 b7 : UInt8) (r : List UInt8) : Qt N (b0 :: b1 :: b2 :: b3 :: b4 :: b5 :: b6 :: b7 :: r) = some (Vf [b0, b1, b2, b3, b4, b5, b6, b7] : Nat) := by
 have l0 := b0.toNat_lt; have l1 := b1.toNat_lt; have l2 := b2.toNat_lt; have l3 := b3.toNat_lt
 have l4 := b4.toNat_lt; have l5 := b5.toNat_lt; have l6 := b6.toNat_lt; have l7 := b7.toNat_lt
 show some _ = some _
 simp only [orI, Jh, Qli]
 have t8 : Int.toNat 8 = 8 := rfl
 have t16 : Int.toNat 16 = 16 := rfl
 have t24 : Int.toNat 24 = 24 := rfl
 have t32 : Int.toNat 32 = 32 := rfl
 have t40 : Int.toNat 40 = 40 := rfl
 have t48 : Int.toNat 48 = 48 := rfl
 have t56 : Int.toNat 56 = 56 := rfl
 rw [t8, t16, t24, t32, t40, t48, t56]
 rw [Q80 b0.toNat b1.toNat 8 8 l0 l1 (by omega)]
 rw [Q80 _ b2.toNat 16 8 (by omega) l2 (by omega)]
 rw [Q80 _ b3.toNat 24 8 (by omega) l3 (by omega)]
 rw [Q80 _ b4.toNat 32 8 (by omega) l4 (by omega)]
 rw [Q80 _ b5.toNat 40 8 (by omega) l5 (by omega)]
 rw [Q80 _ b6.toNat 48 8 (by omega) l6 (by omega)]
 rw [Q80 _ b7.toNat 56 8 (by omega) l7 (by omega)]
 simp only [Vf, Option.some.injEq]
 omega
theorem Gq (N : Nat) (s : List UInt8) (h : 8 ≤ s.length) : Qt N s = some ((Vf (s.take 8) : Nat) : Int) := by
 match s, h with
 | b0 :: b1 :: b2 :: b3 :: b4 :: b5 :: b6 :: b7 :: r, _ => exact Qo8 N b0 b1 b2 b3 b4 b5 b6 b7 r
theorem Qbf : ∀ (s : List UInt8) (m : Nat), m = Vf (List.replicate s.length 128) → (Vf s &&& m = 0 ↔ ∀ b ∈ s, b < 128)
 | [], m, h => by subst h; simp [Vf]
 | b :: r, m, h => by
  have ih := Qbf r _ rfl
  have hb0 : ∀ n, n < 256 → (n &&& 128 = 0 ↔ n < 128) := by decide
  have hb : ∀ c : UInt8, c.toNat &&& 128 = 0 ↔ c < 128 := fun c => (hb0 c.toNat c.toNat_lt).trans Iff.rfl
  rw [List.length_cons, List.replicate_succ, Vf] at h
  generalize Vf (List.replicate r.length 128) = q at h ih
  have e1 : (128 : UInt8).toNat = 128 := rfl
  rw [e1] at h
  have key : ∀ z : Nat, z = 0 ↔ z % 2 ^ 8 = 0 ∧ z / 2 ^ 8 = 0 := fun z => by omega
  have hlt := b.toNat_lt
  rw [Vf, h, key, Nat.and_mod_two_pow, Nat.and_div_two_pow]
  have d1 : (b.toNat + 256 * Vf r) % 2 ^ 8 = b.toNat := by omega
  have d2 : (128 + 256 * q) % 2 ^ 8 = 128 := by omega
  have d3 : (b.toNat + 256 * Vf r) / 2 ^ 8 = Vf r := by omega
  have d4 : (128 + 256 * q) / 2 ^ 8 = q := by omega
  rw [d1, d2, d3, d4, hb, ih]
  simp
theorem J2 (n : Nat) (h : n < 18446744073709551616) : IntKind.u64.wrap (n : Int) = n := by
 simp only [IntKind.wrap, IntKind.bits, IntKind.signed]
 simp; omega
theorem Q0q (a b : Nat) (ha : a < 18446744073709551616) (hb : b < 18446744073709551616) : Q3l .u64 (a : Int) (b : Int) = ((a &&& b : Nat) : Int) := by
 have hl : a &&& b ≤ a := Nat.and_le_left
 have h64 : IntKind.u64.bits = 64 := rfl
 have p64 : (2 : Nat) ^ 64 = 18446744073709551616 := rfl
 simp only [Q3l]
 rw [h64, BitVec.ofInt_natCast, BitVec.ofInt_natCast, BitVec.toNat_and, BitVec.toNat_ofNat, BitVec.toNat_ofNat, Nat.mod_eq_of_lt (by omega), Nat.mod_eq_of_lt (by omega), J2 _ (by omega)]
theorem Q84 (a b : Nat) (ha : a < 18446744073709551616) (hb : b < 18446744073709551616) : orI .u64 (a : Int) (b : Int) = ((a ||| b : Nat) : Int) ∧ (a ||| b) < 18446744073709551616 := by
 have h64 : IntKind.u64.bits = 64 := rfl
 have p64 : (2 : Nat) ^ 64 = 18446744073709551616 := rfl
 have hl : a ||| b < 2 ^ 64 := Nat.or_lt_two_pow (by omega) (by omega)
 simp only [orI]
 rw [h64, BitVec.ofInt_natCast, BitVec.ofInt_natCast, BitVec.toNat_or, BitVec.toNat_ofNat, BitVec.toNat_ofNat, Nat.mod_eq_of_lt (by omega), Nat.mod_eq_of_lt (by omega), J2 _ (by omega)]
 exact ⟨rfl, by omega⟩
theorem Qb3 (a b m : Nat) : (a ||| b) &&& m = 0 ↔ a &&& m = 0 ∧ b &&& m = 0 := by
 rw [Nat.and_or_distrib_right]
 constructor
 ·intro h
  have h1 : a &&& m ≤ (a &&& m) ||| (b &&& m) := Nat.left_le_or
  have h2 : b &&& m ≤ (a &&& m) ||| (b &&& m) := Nat.right_le_or
  omega
 ·rintro ⟨h1, h2⟩; rw [h1, h2]; rfl
theorem Q34 (s : List UInt8) : Vf (s.take 8) < 18446744073709551616 := by
 have := Qel (s.take 8) 8 (by simp; omega)
 simpa using this
def M8 : Nat := 9259542123273814144
theorem Qqj (s : List UInt8) (h : 8 ≤ s.length) : Vf (s.take 8) &&& M8 = 0 ↔ ∀ b ∈ s.take 8, b < 128 := Qbf _ _ (by rw [List.length_take, Nat.min_eq_left h]; rfl)
theorem Qoj (s : List UInt8) (h : 8 ≤ s.length) (hm : Vf (s.take 8) &&& M8 = 0) : Wi s = Wi (s.drop 8) := Q38 8 s ((Qqj s h).1 hm)
theorem Qqn (s : List UInt8) : (Q3l .u64 ((Vf (s.take 8) : Nat) : Int) 9259542123273814144 = 0) = (Vf (s.take 8) &&& M8 = 0) := by
 have h1 := Q34 s
 rw [show (9259542123273814144 : Int) = ((M8 : Nat) : Int) from rfl, Q0q _ _ h1 (by decide)]
 apply propext; omega
theorem Qqb (s t : List UInt8) : (Q3l .u64 (orI .u64 ((Vf (s.take 8) : Nat) : Int) ((Vf (t.take 8) : Nat) : Int)) 9259542123273814144 = 0) = (Vf (s.take 8) &&& M8 = 0 ∧ Vf (t.take 8) &&& M8 = 0) := by
 obtain ⟨h1, h2⟩ := Q84 _ _ (Q34 s) (Q34 t)
 rw [h1, show (9259542123273814144 : Int) = ((M8 : Nat) : Int) from rfl, Q0q _ _ h2 (by decide)]
 rw [← Qb3]
 apply propext; omega
theorem Qq9 (s t u v : List UInt8) : (Q3l .u64 (orI .u64 (orI .u64 ((Vf (s.take 8) : Nat) : Int) ((Vf (t.take 8) : Nat) : Int)) (orI .u64 ((Vf (u.take 8) : Nat) : Int) ((Vf (v.take 8) : Nat) : Int))) 9259542123273814144 = 0) =
  (Vf (s.take 8) &&& M8 = 0 ∧ Vf (t.take 8) &&& M8 = 0 ∧ Vf (u.take 8) &&& M8 = 0 ∧ Vf (v.take 8) &&& M8 = 0) := by
 obtain ⟨h1, h2⟩ := Q84 _ _ (Q34 s) (Q34 t)
 obtain ⟨h3, h4⟩ := Q84 _ _ (Q34 u) (Q34 v)
 obtain ⟨h5, h6⟩ := Q84 _ _ h2 h4
 rw [h1, h3, h5, show (9259542123273814144 : Int) = ((M8 : Nat) : Int) from rfl, Q0q _ _ h6 (by decide)]
 rw [show (Vf (s.take 8) &&& M8 = 0 ∧ Vf (t.take 8) &&& M8 = 0 ∧ Vf (u.take 8) &&& M8 = 0 ∧ Vf (v.take 8) &&& M8 = 0) = ((Vf (s.take 8) ||| Vf (t.take 8) ||| (Vf (u.take 8) ||| Vf (v.take 8))) &&& M8 = 0) by
  rw [Qb3, Qb3, Qb3]; apply propext; simp only [and_assoc]]
 apply propext; omega
theorem Qpo (N : Nat) (k0 : List UInt8 → Option Bool) : ∀ (n : Nat) (s : List UInt8), s.length < n → (∀ t, t.length ≤ s.length → k0 t = some (Wi t)) → Zr N k0 n s = some (Wi s)
 | 0, s, h, _ => by omega
 | n + 1, s, h, hk => by
  simp only [Zr, Qd, Q1g, Ve, List.take_length, Nat.ble_eq, Bool.and_eq_true, Nat.le_refl, and_true]
  by_cases hl : (s.length : Int) > 32
  ·rw [if_pos hl, Gq N s (by omega)]
   simp only [Option.bind_some]
   rw [if_pos (by omega), Gq N _ (by rw [List.length_drop]; omega)]
   simp only [Option.bind_some]
   rw [if_pos (by omega), Gq N _ (by rw [List.length_drop]; omega)]
   simp only [Option.bind_some]
   rw [if_pos (by omega), Gq N _ (by rw [List.length_drop]; omega)]
   simp only [Option.bind_some, Qq9]
   split
   ·rename_i hm
    obtain ⟨m1, m2, m3, m4⟩ := hm
    rw [if_pos (by omega), Qpo N k0 n (s.drop 32) (by rw [List.length_drop]; omega) (fun t ht => hk t (by rw [List.length_drop] at ht; omega))]
    have e1 := Qoj s (by omega) m1
    have e2 := Qoj (s.drop 8) (by rw [List.length_drop]; omega) m2
    rw [List.drop_drop] at e2
    have e3 := Qoj (s.drop 16) (by rw [List.length_drop]; omega) m3
    rw [List.drop_drop] at e3
    have e4 := Qoj (s.drop 24) (by rw [List.length_drop]; omega) m4
    rw [List.drop_drop] at e4
    rw [e1, e2, e3, e4]
   ·exact hk s (Nat.le_refl _)
  ·rw [if_neg hl]; exact hk s (Nat.le_refl _)
def Qb6 (n : Nat) : Nat := Go.Pinned.utf8FirstZ.getD n 0
theorem Qnz (n : Nat) (h : n < 256) : idx gtab0 (n : Int) = some (Qb6 n : Int) := by
 have hl : Go.Pinned.utf8FirstZ.length = 256 := by rfl
 rw [U3, gtab0, List.getElem?_map, Qb6, List.getD_eq_getElem?_getD, List.getElem?_eq_getElem (by omega)]
 rfl
def Qrf (n : Nat) : Bool := (Qb6 n == 241 && (decide (n < 194) || decide (244 < n))) || (Qb6 n == 2 && decide (194 ≤ n) && decide (n ≤ 223)) || (Qb6 n == 19 && n == 224) || (Qb6 n == 3 && decide (225 ≤ n) && decide (n ≤ 239) && n != 237) || (Qb6 n == 35 && n == 237) ||
  (Qb6 n == 52 && n == 240) || (Qb6 n == 4 && decide (241 ≤ n) && decide (n ≤ 243)) || (Qb6 n == 68 && n == 244)
set_option maxRecDepth 100000 in
theorem Qog : ((List.range 256).all fun n => decide (n < 128) || Qrf n) = true := by decide +kernel
theorem cls (n : Nat) (h : n < 256) (h2 : 128 ≤ n) : (Qb6 n = 241 ∧ (n < 194 ∨ 244 < n)) ∨ (Qb6 n = 2 ∧ 194 ≤ n ∧ n ≤ 223) ∨ (Qb6 n = 19 ∧ n = 224) ∨ (Qb6 n = 3 ∧ 225 ≤ n ∧ n ≤ 239 ∧ n ≠ 237) ∨ (Qb6 n = 35 ∧ n = 237) ∨
  (Qb6 n = 52 ∧ n = 240) ∨ (Qb6 n = 4 ∧ 241 ≤ n ∧ n ≤ 243) ∨ (Qb6 n = 68 ∧ n = 244) := by
 have := List.all_eq_true.1 Qog n (by simpa using h)
 simp only [Bool.or_eq_true, decide_eq_true_eq] at this
 rcases this with h3 | h3
 ·omega
 ·simp only [Qrf, Bool.or_eq_true, Bool.and_eq_true, beq_iff_eq, decide_eq_true_eq, bne_iff_ne, ne_eq] at h3
  rcases h3 with ((((((h | h) | h) | h) | h) | h) | h) | h
  ·exact .inl h
  ·exact .inr (.inl ⟨h.1.1, h.1.2, h.2⟩)
  ·exact .inr (.inr (.inl h))
  ·exact .inr (.inr (.inr (.inl ⟨h.1.1.1, h.1.1.2, h.1.2, h.2⟩)))
  ·exact .inr (.inr (.inr (.inr (.inl h))))
  ·exact .inr (.inr (.inr (.inr (.inr (.inl h)))))
  ·exact .inr (.inr (.inr (.inr (.inr (.inr (.inl ⟨h.1.1, h.1.2, h.2⟩))))))
  ·exact .inr (.inr (.inr (.inr (.inr (.inr (.inr h))))))
theorem Qos (N n : Nat) (c : UInt8) (r : List UInt8) (hc : c.toNat < 128) (_hn : r.length < n) (hN : r.length < N) (ih : ∀ t, t.length ≤ r.length → Q3 N n t = some (Wi t)) :
  Q3 N (n + 1) (c :: r) = some (Wi (c :: r)) := by
 have hstep : Wi (c :: r) = Wi r := Q38 1 (c :: r) (fun b hb => by simp at hb; subst hb; exact hc)
 rw [hstep]
 simp only [Q3, Qd, Q1g, Ve, V0, List.take_length, Nat.ble_eq, Bool.and_eq_true, Nat.le_refl, and_true]
 rw [if_pos (by simp only [List.length_cons]; omega), show idx (c :: r) 0 = some c from rfl]
 simp only [Option.bind_some]
 rw [if_pos (by omega), if_pos (by simp)]
 simp only [List.drop_one, List.tail_cons]
 by_cases h8 : (r.length : Int) > 8
 ·rw [if_pos h8, Gq N r (by omega)]
  simp only [Option.bind_some, Qqn]
  split
  ·rename_i hm
   rw [Qoj r (by omega) hm, if_pos (by omega)]
   split
   ·rename_i h16
    rw [Gq N _ (by omega)]
    simp only [Option.bind_some]
    rw [if_pos (by omega), Gq N _ (by simp only [List.length_drop] at h16 ⊢; omega)]
    simp only [Option.bind_some, Qqb]
    split
    ·rename_i hm2
     rw [if_pos (by omega), Qpo N _ N _ (by simp only [List.length_drop]; omega) (fun t ht => ih t (by simp only [List.length_drop] at ht; omega))]
     rw [Qoj (r.drop 8) (by simp only [List.length_drop] at h16 ⊢; omega) hm2.1, Qoj ((r.drop 8).drop 8) (by simp only [List.length_drop] at h16 ⊢; omega) hm2.2, List.drop_drop (l := r.drop 8)]
    ·exact ih _ (by simp only [List.length_drop]; omega)
   ·exact ih _ (by simp only [List.length_drop]; omega)
  ·exact ih _ (Nat.le_refl _)
 ·rw [if_neg h8]; exact ih _ (Nat.le_refl _)
end
end Go.Av
namespace Go.Av
noncomputable section
open Go.Proofs
set_option maxRecDepth 100000
theorem Qgr {s : List UInt8} {i lo hi : Nat} {b : UInt8} (h : s[i]? = some b) (h1 : lo ≤ b.toNat) (h2 : b.toNat ≤ hi) : inB s i lo hi = true := by simp [inB, h, h1, h2]
theorem Q5y {s : List UInt8} {i lo hi : Nat} {b : UInt8} (h : s[i]? = some b) (h1 : ¬ (lo ≤ b.toNat ∧ b.toNat ≤ hi)) : inB s i lo hi = false := by simp only [inB, h, decide_eq_false h1]
theorem Qg3 {s : List UInt8} {i lo hi : Nat} (h : s[i]? = none) : inB s i lo hi = false := by simp [inB, h]
theorem Qny {X : List UInt8 → Option Bool} (c : UInt8) (r : List UInt8) (lo hi : Int) (lo' hi' : Nat) (e1 : lo = lo') (e2 : hi = hi') (hX : ∀ t, t.length ≤ r.length → X t = some (Wi t))
  (hcp : cpN (c :: r) = if inB (c :: r) 1 lo' hi' then 2 else 0) :
  (if ((c :: r).length : Int) < 2 then some false else (idx (c :: r) 1).bind fun b => if (b.toNat : Int) < lo then some false else (idx (c :: r) 1).bind fun b2 => if hi < (b2.toNat : Int) then some false else
   if 2 ≤ (c :: r).length then X ((c :: r).drop 2) else none) = some (Wi (c :: r)) := by
 subst e1 e2
 have bad : cpN (c :: r) = 0 → some false = some (Wi (c :: r)) := fun h => by rw [Q26 _ (by simp) h]
 match r, hX, hcp, bad with
 | [], hX, hcp, bad =>
  rw [if_pos (by simp)]
  exact bad (by rw [hcp, Qg3 (by simp)]; rfl)
 | d :: t, hX, hcp, bad =>
  rw [if_neg (by simp only [List.length_cons]; omega), show idx (c :: d :: t) 1 = some d from rfl]
  simp only [Option.bind_some]
  by_cases h1 : (d.toNat : Int) < lo'
  ·rw [if_pos h1]; exact bad (by rw [hcp, Q5y (b := d) rfl (by omega)]; rfl)
  rw [if_neg h1]
  by_cases h2 : (hi' : Int) < d.toNat
  ·rw [if_pos h2]; exact bad (by rw [hcp, Q5y (b := d) rfl (by omega)]; rfl)
  rw [if_neg h2, if_pos (by simp)]
  have hc : cpN (c :: d :: t) = 2 := by rw [hcp, Qgr (b := d) rfl (by omega) (by omega)]; rfl
  rw [Q0a _ 1 hc]
  exact hX _ (by simp)
theorem Qdn {X : List UInt8 → Option Bool} (c : UInt8) (r : List UInt8) (lo hi : Int) (lo' hi' : Nat) (e1 : lo = lo') (e2 : hi = hi') (hX : ∀ t, t.length ≤ r.length → X t = some (Wi t))
  (hcp : cpN (c :: r) = if inB (c :: r) 1 lo' hi' && inB (c :: r) 2 128 191 then 3 else 0) :
  (if ((c :: r).length : Int) < 3 then some false else (idx (c :: r) 1).bind fun b => if (b.toNat : Int) < lo then some false else (idx (c :: r) 1).bind fun b2 => if hi < (b2.toNat : Int) then some false else
   (idx (c :: r) 2).bind fun b3 => if (b3.toNat : Int) < 128 then some false else (idx (c :: r) 2).bind fun b4 => if 191 < (b4.toNat : Int) then some false else
   if 3 ≤ (c :: r).length then X ((c :: r).drop 3) else none) = some (Wi (c :: r)) := by
 subst e1 e2
 have bad : cpN (c :: r) = 0 → some false = some (Wi (c :: r)) := fun h => by rw [Q26 _ (by simp) h]
 match r, hX, hcp, bad with
 | [], hX, hcp, bad =>
  rw [if_pos (by simp)]
  exact bad (by rw [hcp, Qg3 (by simp)]; rfl)
 | [d], hX, hcp, bad =>
  rw [if_pos (by simp)]
  exact bad (by rw [hcp, Qg3 (i := 2) (by simp)]; simp)
 | d :: e :: t, hX, hcp, bad =>
  rw [if_neg (by simp only [List.length_cons]; omega), show idx (c :: d :: e :: t) 1 = some d from rfl, show idx (c :: d :: e :: t) 2 = some e from rfl]
  simp only [Option.bind_some]
  by_cases h1 : (d.toNat : Int) < lo'
  ·rw [if_pos h1]; exact bad (by rw [hcp, Q5y (b := d) (i := 1) rfl (by omega)]; rfl)
  rw [if_neg h1]
  by_cases h2 : (hi' : Int) < d.toNat
  ·rw [if_pos h2]; exact bad (by rw [hcp, Q5y (b := d) (i := 1) rfl (by omega)]; rfl)
  rw [if_neg h2]
  by_cases h3 : (e.toNat : Int) < 128
  ·rw [if_pos h3]; exact bad (by rw [hcp, Q5y (b := e) (i := 2) rfl (by omega)]; simp)
  rw [if_neg h3]
  by_cases h4 : (191 : Int) < e.toNat
  ·rw [if_pos h4]; exact bad (by rw [hcp, Q5y (b := e) (i := 2) rfl (by omega)]; simp)
  rw [if_neg h4, if_pos (by simp)]
  have hc : cpN (c :: d :: e :: t) = 3 := by rw [hcp, Qgr (b := d) (i := 1) rfl (by omega) (by omega), Qgr (b := e) (i := 2) rfl (by omega) (by omega)]; rfl
  rw [Q0a _ 2 hc]
  exact hX _ (by simp; omega)
theorem Qe2 {X : List UInt8 → Option Bool} (c : UInt8) (r : List UInt8) (lo hi : Int) (lo' hi' : Nat) (e1 : lo = lo') (e2 : hi = hi') (hX : ∀ t, t.length ≤ r.length → X t = some (Wi t))
  (hcp : cpN (c :: r) = if inB (c :: r) 1 lo' hi' && inB (c :: r) 2 128 191 && inB (c :: r) 3 128 191 then 4 else 0) :
  (if ((c :: r).length : Int) < 4 then some false else (idx (c :: r) 1).bind fun b => if (b.toNat : Int) < lo then some false else (idx (c :: r) 1).bind fun b2 => if hi < (b2.toNat : Int) then some false else
   (idx (c :: r) 2).bind fun b3 => if (b3.toNat : Int) < 128 then some false else (idx (c :: r) 2).bind fun b4 => if 191 < (b4.toNat : Int) then some false else
   (idx (c :: r) 3).bind fun b5 => if (b5.toNat : Int) < 128 then some false else (idx (c :: r) 3).bind fun b6 => if 191 < (b6.toNat : Int) then some false else
   if 4 ≤ (c :: r).length then X ((c :: r).drop 4) else none) = some (Wi (c :: r)) := by
 subst e1 e2
 have bad : cpN (c :: r) = 0 → some false = some (Wi (c :: r)) := fun h => by rw [Q26 _ (by simp) h]
 match r, hX, hcp, bad with
 | [], hX, hcp, bad =>
  rw [if_pos (by simp)]
  exact bad (by rw [hcp, Qg3 (by simp)]; rfl)
 | [d], hX, hcp, bad =>
  rw [if_pos (by simp)]
  exact bad (by rw [hcp, Qg3 (i := 2) (by simp)]; simp)
 | [d, e], hX, hcp, bad =>
  rw [if_pos (by simp)]
  exact bad (by rw [hcp, Qg3 (i := 3) (by simp)]; simp)
 | d :: e :: f :: t, hX, hcp, bad =>
  rw [if_neg (by simp only [List.length_cons]; omega), show idx (c :: d :: e :: f :: t) 1 = some d from rfl, show idx (c :: d :: e :: f :: t) 2 = some e from rfl, show idx (c :: d :: e :: f :: t) 3 = some f from rfl]
  simp only [Option.bind_some]
  by_cases h1 : (d.toNat : Int) < lo'
  ·rw [if_pos h1]; exact bad (by rw [hcp, Q5y (b := d) (i := 1) rfl (by omega)]; rfl)
  rw [if_neg h1]
  by_cases h2 : (hi' : Int) < d.toNat
  ·rw [if_pos h2]; exact bad (by rw [hcp, Q5y (b := d) (i := 1) rfl (by omega)]; rfl)
  rw [if_neg h2]
  by_cases h3 : (e.toNat : Int) < 128
  ·rw [if_pos h3]; exact bad (by rw [hcp, Q5y (b := e) (i := 2) rfl (by omega)]; simp)
  rw [if_neg h3]
  by_cases h4 : (191 : Int) < e.toNat
  ·rw [if_pos h4]; exact bad (by rw [hcp, Q5y (b := e) (i := 2) rfl (by omega)]; simp)
  rw [if_neg h4]
  by_cases h5 : (f.toNat : Int) < 128
  ·rw [if_pos h5]; exact bad (by rw [hcp, Q5y (b := f) (i := 3) rfl (by omega)]; simp)
  rw [if_neg h5]
  by_cases h6 : (191 : Int) < f.toNat
  ·rw [if_pos h6]; exact bad (by rw [hcp, Q5y (b := f) (i := 3) rfl (by omega)]; simp)
  rw [if_neg h6, if_pos (by simp)]
  have hc : cpN (c :: d :: e :: f :: t) = 4 := by rw [hcp, Qgr (b := d) (i := 1) rfl (by omega) (by omega), Qgr (b := e) (i := 2) rfl (by omega) (by omega), Qgr (b := f) (i := 3) rfl (by omega) (by omega)]; rfl
  rw [Q0a _ 3 hc]
  exact hX _ (by simp; omega)
theorem Qpn : ∀ (N n : Nat) (s : List UInt8), s.length < n → s.length < N → Q3 N n s = some (Wi s)
 | N, 0, s, h, _ => by omega
 | N, n + 1, [], h1, h2 => by simp [Q3, Qd, Qjv]
 | N, n + 1, c :: r, h1, h2 => by
  have h1 : r.length < n := by simp at h1; omega
  have h2 : r.length < N := by simp at h2; omega
  have ih : ∀ t : List UInt8, t.length ≤ r.length → Q3 N n t = some (Wi t) := fun t ht => Qpn N n t (by omega) (by omega)
  by_cases hc : c.toNat < 128
  ·exact Qos N n c r hc h1 h2 ih
  have hlt := c.toNat_lt
  simp only [Q3, Qd, Q1g, Ve, V0, List.take_length, Nat.ble_eq, Bool.and_eq_true, Nat.le_refl, and_true]
  rw [if_pos (by simp only [List.length_cons]; omega), show idx (c :: r) 0 = some c from rfl]
  simp only [Option.bind_some]
  rw [if_neg (by omega), Qnz _ hlt]
  simp only [Option.bind_some]
  rcases cls c.toNat hlt (by omega) with ⟨e, h⟩ | ⟨e, h⟩ | ⟨e, h⟩ | ⟨e, h⟩ | ⟨e, h⟩ | ⟨e, h⟩ | ⟨e, h⟩ | ⟨e, h⟩
  ·rw [e, show (idx gtab1 (Q6a .u8 ((241 : Nat) : Int) 4)) = some (0, 0) from by decide]
   simp only [Option.bind_some]
   rw [if_neg (by decide), if_neg (by decide), if_neg (by decide), Q26 _ (by simp) (by simp only [cpN]; rw [if_neg hc, if_neg (by omega), if_neg (by omega), if_neg (by omega), if_neg (by omega), if_neg (by omega), if_neg (by omega), if_neg (by omega)])]
  ·rw [e, show (idx gtab1 (Q6a .u8 ((2 : Nat) : Int) 4)) = some (128, 191) from by decide]
   simp only [Option.bind_some]
   rw [if_pos (by decide)]
   exact Qny c r 128 191 128 191 rfl rfl ih (by simp only [cpN]; rw [if_neg hc, if_pos h])
  ·rw [e, show (idx gtab1 (Q6a .u8 ((19 : Nat) : Int) 4)) = some (160, 191) from by decide]
   simp only [Option.bind_some]
   rw [if_neg (by decide), if_pos (by decide)]
   exact Qdn c r 160 191 160 191 rfl rfl ih (by simp only [cpN]; rw [if_neg hc, if_neg (by omega), if_pos h])
  ·rw [e, show (idx gtab1 (Q6a .u8 ((3 : Nat) : Int) 4)) = some (128, 191) from by decide]
   simp only [Option.bind_some]
   rw [if_neg (by decide), if_pos (by decide)]
   exact Qdn c r 128 191 128 191 rfl rfl ih (by simp only [cpN]; rw [if_neg hc, if_neg (by omega), if_neg (by omega), if_neg (by omega), if_pos (by omega)])
  ·rw [e, show (idx gtab1 (Q6a .u8 ((35 : Nat) : Int) 4)) = some (128, 159) from by decide]
   simp only [Option.bind_some]
   rw [if_neg (by decide), if_pos (by decide)]
   exact Qdn c r 128 159 128 159 rfl rfl ih (by simp only [cpN]; rw [if_neg hc, if_neg (by omega), if_neg (by omega), if_pos h])
  ·rw [e, show (idx gtab1 (Q6a .u8 ((52 : Nat) : Int) 4)) = some (144, 191) from by decide]
   simp only [Option.bind_some]
   rw [if_neg (by decide), if_neg (by decide), if_pos (by decide)]
   exact Qe2 c r 144 191 144 191 rfl rfl ih (by simp only [cpN]; rw [if_neg hc, if_neg (by omega), if_neg (by omega), if_neg (by omega), if_neg (by omega), if_pos h])
  ·rw [e, show (idx gtab1 (Q6a .u8 ((4 : Nat) : Int) 4)) = some (128, 191) from by decide]
   simp only [Option.bind_some]
   rw [if_neg (by decide), if_neg (by decide), if_pos (by decide)]
   exact Qe2 c r 128 191 128 191 rfl rfl ih (by simp only [cpN]; rw [if_neg hc, if_neg (by omega), if_neg (by omega), if_neg (by omega), if_neg (by omega), if_neg (by omega), if_pos h])
  ·rw [e, show (idx gtab1 (Q6a .u8 ((68 : Nat) : Int) 4)) = some (128, 143) from by decide]
   simp only [Option.bind_some]
   rw [if_neg (by decide), if_neg (by decide), if_pos (by decide)]
   exact Qe2 c r 128 143 128 143 rfl rfl ih (by simp only [cpN]; rw [if_neg hc, if_neg (by omega), if_neg (by omega), if_neg (by omega), if_neg (by omega), if_neg (by omega), if_neg (by omega), if_pos h])
theorem Q8j (N : Nat) (s : List UInt8) (h : s.length < N) : Xo N s = some (Wi s) := Qpn N N s h h
end
end Go.Av
namespace Go.Av
noncomputable section
open Go.Proofs
set_option maxRecDepth 100000
theorem Q8c (s : List UInt8) (i : Nat) (hi : i < s.length) (h : s[i].toNat < 128) : Q1l (s.drop i) = Q1l (s.drop (i + 1)) := by
 rw [List.drop_eq_getElem_cons hi]
 simp only [Q1l, List.all_cons, decide_eq_true h, Bool.true_and]
theorem Qiw (N : Nat) (v : Q0) (hb : v.Text.length < 4611686018427387904) : ∀ (n i : Nat), v.Text.length - i < n → i ≤ v.Text.length →
  Wq N v n (i : Int) = some (if Q1l (v.Text.drop i) then 0 else 6)
 | 0, i, h, _ => by omega
 | n + 1, i, h, hi => by
  simp only [Wq, Qd, V0, Q60]
  by_cases h1 : i < v.Text.length
  ·rw [if_pos (by omega), U3, List.getElem?_eq_getElem h1]
   simp only [Option.bind_some]
   by_cases h2 : v.Text[i].toNat < 128
   ·rw [if_neg (by omega), Zm _ (by omega), Q8c _ _ h1 h2]
    exact_mod_cast Qiw N v hb n (i + 1) (by omega) (by omega)
   ·rw [if_pos (by omega)]
    have : Q1l (v.Text.drop i) = false := by
     rw [List.drop_eq_getElem_cons h1]
     simp only [Q1l, List.all_cons, decide_eq_false h2, Bool.false_and]
    simp [this]
  ·rw [if_neg (by omega), List.drop_of_length_le (by omega)]
   rfl
theorem Qnt (N : Nat) (v : Q0) (h : v.Text.length < N) (hb : v.Text.length < 4611686018427387904) : Xg N v = some (Qbc v.Kind v.Text) := by
 simp only [Xg, Qd, Ve, Qbc]
 split
 ·rw [Q8j N _ h]
  simp only [Option.bind_some]
  cases Wi v.Text <;> rfl
 ·split
  ·have := Qiw N v hb N 0 (by omega) (by omega)
   simpa using this
  ·rfl
theorem Qn5 (v : Q0) : (((Q0.rows v.Items).length : Int) ≠ 0) = (v.Items ≠ []) := by
 rw [Vc]
 apply propext
 cases v.Items <;> simp; omega
theorem Qi2 (k : Int) : 0 ≤ (Ul k).1 ∧ (Ul k).1 ≤ 64 ∧ ((Ul k).2 = true → 1 ≤ (Ul k).1) := by
 unfold Ul
 repeat' split
 all_goals simp
def okU (n : Int) : Prop := 0 ≤ n ∧ n < 18446744073709551616
theorem Q6f (N : Nat) (v : Q0) (hn : okU v.N') (h : v.Text.length < N) (hb : v.Text.length < 4611686018427387904) : W4 N v = some (Jg v) := by
 obtain ⟨b1, b2, b3⟩ := Qi2 v.Kind
 simp only [W4, Qd, Ve, V0, Q1g, Wt, J4, Qiy, Option.bind_some, Qeb N _ _ _ hn.1 hn.2 b1 b2 b3, Qcp N _ hn.1, Qgl, Qnt N v h hb, Qn5]
 unfold Jg
 by_cases h1 : v.Kind < 1
 ·rw [if_pos h1, if_pos (.inl h1)]
 rw [if_neg h1]
 by_cases h2 : v.Kind > 21
 ·rw [if_pos h2, if_pos (.inr h2)]
 rw [if_neg h2, if_neg (show ¬ (v.Kind < 1 ∨ 21 < v.Kind) by omega)]
 unfold Q6h
 generalize Jy v.N' (Ul v.Kind).1 (Ul v.Kind).2 = fb
 cases fb
 ·simp
 simp only [Bool.not_true, Bool.false_eq_true, if_false, Bool.true_and]
 by_cases h16 : v.Kind = 16
 ·rw [if_pos h16]
  have e1 : (v.Kind != 16) = false := by simp [h16]
  have e2 : G7 v.Kind = false := by rw [h16]; rfl
  rw [e1, e2]
  simp only [Bool.false_or, Bool.not_false, if_true]
  cases Q8o v.N' with
  | false => simp
  | true =>
   simp only [Bool.not_true, Bool.false_eq_true, if_false]
   by_cases hi : v.Items = []
   ·simp only [hi, ne_eq, not_true_eq_false, if_false]
    simp only [Bool.true_eq_false, or_self, if_false]
    by_cases ht : v.Text = [] <;> simp [ht]
   ·simp [hi]
 ·rw [if_neg h16]
  have e1 : (v.Kind != 16) = true := by simp [h16]
  rw [e1]
  simp only [Bool.true_or, Bool.true_eq_false, false_or]
  have e3 : ((v.Text.length : Int) ≠ 16) = (v.Text.length ≠ 16) := by apply propext; omega
  have e4 : ((v.Text.length : Int) > 1048576) = (1048576 < v.Text.length) := by apply propext; omega
  simp only [e3, e4]
  by_cases hi : v.Items = []
  ·simp only [hi, ne_eq, not_true_eq_false, if_false]
   cases G7 v.Kind with
   | false => by_cases ht : v.Text = [] <;> simp [ht]
   | true =>
    simp only [Bool.not_true, Bool.false_eq_true, if_false, Bool.true_eq_false]
    by_cases h15 : v.Kind = 15
    ·simp only [h15, if_true, true_or, true_and]
     by_cases hl : v.Text.length = 16 <;> simp [hl]
    ·by_cases h18 : v.Kind = 18
     ·simp only [h18, if_true, or_true, true_and]
      by_cases hl : v.Text.length = 16 <;> simp [hl]
     ·simp only [h15, h18, if_false, or_self, false_and]
      split <;> rfl
  ·simp [hi]
end
end Go.Av
namespace Go.Av
noncomputable section
open Go.Proofs
set_option maxRecDepth 100000
theorem Q56 (x : Int) : IntKind.u64.wrap x = x % 18446744073709551616 := by simp [IntKind.wrap, IntKind.bits, IntKind.signed]
theorem Qbu (a b : Nat) (ha : a < 72057594037927936) (hb : b < 256) : orI .u64 (Jh .u64 (a : Int) 8) (IntKind.u64.wrap (b : Int)) = ((a * 256 + b : Nat) : Int) := by
 have e1 : Jh .u64 (a : Int) 8 = ((a * 256 : Nat) : Int) := by
  simp only [Jh]
  have : min (Int.toNat 8) IntKind.u64.bits = 8 := rfl
  rw [this, show ((a : Int) * 2 ^ 8) = ((a * 256 : Nat) : Int) by push_cast; rfl, J2 _ (by omega)]
 rw [e1, J2 b (by omega), (Q84 _ _ (by omega) (by omega)).1]
 have := Nat.shiftLeft_add_eq_or_of_lt (show b < 2 ^ 8 by omega) a
 rw [Nat.shiftLeft_eq] at this
 rw [← this]
theorem Qcf (s : List UInt8) (i : Nat) (hi : i < s.length) : Vo (s.take (i + 1)) = Vo (s.take i) * 256 + s[i].toNat := by
 rw [List.take_succ_eq_append_getElem hi, Q3w]
theorem Qi0 (N : Nat) (s : List UInt8) (hl : s.length ≤ 8) : ∀ (k i : Nat), i ≤ s.length → s.length - i < k → Vt N s k (Vo (s.take i) : Nat) (i : Int) = some ((Vo s : Nat) : Int)
 | 0, i, h, h2 => by omega
 | k + 1, i, h, h2 => by
  simp only [Vt, Qd, V0]
  by_cases hi : i < s.length
  ·rw [if_pos (by omega), U3, List.getElem?_eq_getElem hi]
   simp only [Option.bind_some]
   have h3 := Jn (s.take i)
   have h4 : 256 ^ (s.take i).length ≤ 256 ^ 7 := Nat.pow_le_pow_right (by omega) (by rw [List.length_take]; omega)
   have h5 : (256 : Nat) ^ 7 = 72057594037927936 := rfl
   rw [Qbu _ _ (by omega) s[i].toNat_lt, ← Qcf s i hi, Zm _ (by omega)]
   exact_mod_cast Qi0 N s hl k (i + 1) (by omega) (by omega)
  ·rw [if_neg (by omega), List.take_of_length_le (by omega)]
theorem Q6t (N : Nat) (s : List UInt8) (hl : s.length ≤ 8) (hN : 10 < N) : Uu N s = some ((Vo s : Nat) : Int) := by
 simp only [Uu, Qd, Q1g]
 rw [if_neg (by omega)]
 exact Qi0 N s hl N 0 (by omega) (by omega)
abbrev Q74 (s : List UInt8) : Prop := s.length < 4611686018427387904
theorem Q1d (N : Nat) (s : List UInt8) (i n : Nat) (hs : Q74 s) (hi : i ≤ s.length) (hn : n < 4611686018427387904) : Qr N ⟨s, i, 0⟩ (n : Int) =
  some (if n ≤ s.length - i then ((s.drop i).take n, ⟨s, ((i + n : Nat) : Int), 0⟩) else ([], ⟨s, i, 3⟩)) := by
 unfold Q74 at hs
 simp only [Qr, Wk, Vx, Qd, Option.bind_some, Q60, show Q7 .eql (0 : Int) 0 = true from rfl, Bool.not_true, Bool.false_eq_true, if_false]
 rw [if_pos (by omega), Zm _ (by omega)]
 simp only [Option.bind_some, Bool.not_eq_true']
 by_cases h : n ≤ s.length - i
 ·have e1 : Q7 .leq (n : Int) ((s.length : Int) - (i : Int)) = true := by rw [Qbz]; omega
  rw [e1, if_pos h, Zm _ (by omega)]
  simp only [Bool.true_eq_false, if_false]
  have e2 : ((i : Int) + (n : Int)) = ((i + n : Nat) : Int) := by push_cast; rfl
  rw [e2, if_pos (by simp), if_pos (by simp; omega), if_pos (by simp [Nat.ble_eq]; omega)]
  have e3 : ((i + n : Nat) : Int).toNat = i + n := rfl
  have e4 : (i : Int).toNat = i := rfl
  rw [e3, e4]
  rw [show (s.take (i + n)).drop i = (s.drop i).take n by rw [List.drop_take]; congr 1; omega]
 ·have e1 : Q7 .leq (n : Int) ((s.length : Int) - (i : Int)) = false := by
   have : ¬ (Q7 .leq (n : Int) ((s.length : Int) - (i : Int)) = true) := by rw [Qbz]; omega
   exact Bool.eq_false_iff.2 this
  rw [e1, if_neg h]
  simp
theorem Q3e (N : Nat) (s : List UInt8) (i : Nat) (e : Int) (hi : i ≤ s.length) : Z0 N ⟨s, i, e⟩ = some (((s.length - i : Nat) : Int), ⟨s, i, e⟩) := by
 simp only [Z0, Z1, Qd]
 rw [if_pos (by simp), if_pos (by simp [Nat.ble_eq]; exact hi)]
 simp
theorem Q3n (N : Nat) (s : List UInt8) (w : Nat) (hs : Q74 s) (hw : w ≤ 8) (hN : 10 < N) : Qy N ⟨s, 0, 0⟩ (w : Int) =
  some (if w ≤ s.length then (((Vo (s.take w) : Nat) : Int), ⟨s, (w : Int), 0⟩) else (0, ⟨s, 0, 3⟩)) := by
 simp only [Qy]
 have := Q1d N s 0 w hs (by omega) (by omega)
 rw [show ((0 : Nat) : Int) = 0 from rfl] at this
 rw [this]
 simp only [Option.bind_some, Nat.sub_zero, List.drop_zero, Nat.zero_add]
 by_cases h : w ≤ s.length
 ·rw [if_pos h, if_pos h]
  simp only
  rw [Q6t N _ (by rw [List.length_take]; omega) hN]
  rfl
 ·rw [if_neg h, if_neg h]
  dsimp only
  rw [Q6t N _ (by simp) hN]
  rfl
end
end Go.Av
namespace Go.Av
noncomputable section
open Go.Proofs
set_option maxRecDepth 100000
def Qp3 (code : Int) (t : Int × Int × Int × Bool × Bool) : Bool :=
 decide (t.1 = code) && decide (1 ≤ t.2.1 ∧ t.2.1 ≤ 25) && (t.2.2.2.2 == decide (22 ≤ t.2.1)) &&
 (t.2.2.2.2 || (if t.2.2.2.1 then decide ((t.2.2.1 = 1 ∨ t.2.2.1 = 4) ∧ 19 ≤ t.2.1 ∧ t.2.1 ≤ 21 ∧ t.1 ≠ 65)
  else if t.2.2.1 = 16 then decide ((t.2.1 = 15 ∨ t.2.1 = 18) ∧ t.1 ≠ 65)
  else decide (G7 t.2.1 = false) && decide (t.2.2.1 = 0 ∨ t.2.2.1 = 1 ∨ t.2.2.1 = 2 ∨ t.2.2.1 = 4 ∨ t.2.2.1 = 8) &&
   decide (t.1 = 65 → t.2.2.1 = 0 ∧ t.2.1 = 2) && decide (t.2.2.1 = 1 → (Ul t.2.1).1 ≤ 8 → (Ul t.2.1).2 = false ∨ (Ul t.2.1).1 = 8) && decide (2 ≤ t.2.2.1 → (Ul t.2.1).1 = 8 * t.2.2.1)))
theorem Qhc : ((List.range 40).all fun k => Qp3 (Uo k) (V1 k)) = true := by decide +kernel
structure Well (code : Int) (c : Qh) : Prop where
 code : c.Code = code
 kind : 1 ≤ c.Kind ∧ c.Kind ≤ 25
 items : c.Items = decide (22 ≤ c.Kind)
 sized : c.Items = false → c.Sized = true → (c.Width = 1 ∨ c.Width = 4) ∧ 19 ≤ c.Kind ∧ c.Kind ≤ 21 ∧ c.Code ≠ 65
 wide : c.Items = false → c.Sized = false → c.Width = 16 → (c.Kind = 15 ∨ c.Kind = 18) ∧ c.Code ≠ 65
 num : c.Items = false → c.Sized = false → c.Width ≠ 16 → G7 c.Kind = false ∧ (c.Width = 0 ∨ c.Width = 1 ∨ c.Width = 2 ∨ c.Width = 4 ∨ c.Width = 8) ∧ (c.Code = 65 → c.Width = 0 ∧ c.Kind = 2) ∧ (2 ≤ c.Width → (Ul c.Kind).1 = 8 * c.Width)
theorem Qgc (code : Int) (h : ofB code = true) : Well code (ofS code) := by
 have h1 : bsI code < 40 ∧ Uo (bsI code) = code := by simpa [ofB] using h
 have hw := List.all_eq_true.1 Qhc (bsI code) (by simpa using h1.1)
 rw [h1.2] at hw
 have e : ofT code = V1 (bsI code) := by unfold ofT; rw [if_pos h]
 rw [← e] at hw
 have es : ofS code = ⟨(ofT code).1, (ofT code).2.1, (ofT code).2.2.1, (ofT code).2.2.2.1, (ofT code).2.2.2.2⟩ := rfl
 rw [es]
 generalize ofT code = t at hw
 obtain ⟨c, k, w, s, i⟩ := t
 simp only [Qp3, Bool.and_eq_true, decide_eq_true_eq, beq_iff_eq] at hw
 obtain ⟨⟨⟨h1, h2⟩, h3⟩, h4⟩ := hw
 refine ⟨h1, h2, h3, ?_, ?_, ?_⟩ <;> intro hi hs <;> simp only at hi hs
 ·rw [hi, hs] at h4
  simpa using h4
 ·intro hw16
  simp only at hw16
  rw [hi, hs, if_pos hw16] at h4
  simpa using h4
 ·intro hw16
  simp only at hw16
  rw [hi, hs, if_neg hw16] at h4
  simp only [Bool.false_or, Bool.and_eq_true, decide_eq_true_eq, Bool.false_eq_true, if_false] at h4
  exact ⟨h4.1.1.1.1, h4.1.1.1.2, h4.1.1.2, h4.2⟩
theorem Qlw (code : Int) (h : ofB code = false) : ofS code = ⟨0, 0, 0, false, false⟩ := by
 unfold ofS ofT
 rw [h]; rfl
theorem Q1i {v : Q0} (h : Jg v = 0) : 1 ≤ v.Kind ∧ v.Kind ≤ 21 ∧ Q6h v.Kind v.N' = true ∧ v.Items = [] ∧ (G7 v.Kind = false → v.Text = []) ∧ (v.Kind = 15 ∨ v.Kind = 18 → v.Text.length = 16) ∧ v.Text.length ≤ 1048576 := by
 unfold Jg at h
 split at h
 ·omega
 split at h
 ·omega
 rename_i h1 h2
 have hi : v.Items = [] := by
  apply Classical.byContradiction
  intro hn; exact h2 (.inr hn)
 have ho : Q6h v.Kind v.N' = true := by
  cases ho : Q6h v.Kind v.N' with
  | true => rfl
  | false => exact absurd (.inl ho) h2
 split at h
 ·split at h
  ·omega
  ·rename_i h3 h4
   have ht : v.Text = [] := by
    apply Classical.byContradiction
    intro hn; exact h4 hn
   refine ⟨by omega, by omega, ho, hi, fun _ => ht, fun hk => ?_, by rw [ht]; simp⟩
   rcases hk with hk | hk <;> rw [hk] at h3 <;> cases h3
 ·split at h
  ·omega
  split at h
  ·omega
  rename_i h3 h4 h5
  exact ⟨by omega, by omega, ho, hi, fun ht => absurd ht h3, fun hk => by
   apply Classical.byContradiction
   intro hn; exact h4 ⟨hk, hn⟩, by omega⟩
theorem Qc7 {k n : Int} (h : G7 k = true) (hn : Q6h k n = true) (h0 : 0 ≤ n) : n = 0 := by
 unfold G7 at h
 simp only [decide_eq_true_eq] at h
 have hb : Ul k = (0, false) := by
  rcases h with rfl | rfl | rfl | rfl | rfl <;> rfl
 simp only [Q6h, Bool.and_eq_true, hb, Jy, Bool.false_eq_true, if_false, decide_eq_true_eq] at hn
 have := hn.1
 simp at this
 omega
theorem Qii {c : Qh} {n : Int} {w : Nat} (hw : c.Width = w) (h148 : w = 1 ∨ w = 2 ∨ w = 4 ∨ w = 8) (hn : okU n) (hf : Jy n (8 * w) (Ul c.Kind).2 = true) : Vz c ((n.toNat % 256 ^ w : Nat) : Int) = n := by
 obtain ⟨h0, h1⟩ := hn
 unfold Vz
 unfold Jy s64 at hf
 cases hs : (Ul c.Kind).2
 ·rw [hs] at hf
  simp only [Bool.false_eq_true, if_false, decide_eq_true_eq] at hf
  simp only [Bool.false_eq_true, false_and, if_false]
  rcases h148 with rfl | rfl | rfl | rfl <;> simp at hf ⊢ <;> omega
 ·rw [hs] at hf
  simp only [if_true, decide_eq_true_eq] at hf
  simp only [true_and, hw]
  rcases h148 with rfl | rfl | rfl | rfl <;> simp at hf ⊢ <;> split at hf <;> (try split) <;> omega
theorem Q7m {c : Qh} {n w : Nat} (hw : c.Width = w) (h148 : w = 1 ∨ w = 2 ∨ w = 4 ∨ w = 8) (hn : n < 256 ^ w) : okU (Vz c n) ∧ (Vz c n).toNat % 256 ^ w = n ∧ Jy (Vz c n) (8 * w) (Ul c.Kind).2 = true := by
 unfold Vz okU Jy s64
 cases hs : (Ul c.Kind).2
 ·simp only [Bool.false_eq_true, false_and, if_false]
  rcases h148 with rfl | rfl | rfl | rfl <;> simp at hn ⊢ <;> omega
 ·simp only [true_and, hw, if_true]
  rcases h148 with rfl | rfl | rfl | rfl <;> simp at hn ⊢ <;> split <;> refine ⟨by omega, by omega, ?_⟩ <;> (try split) <;> omega
theorem Qev (N : Nat) (c : Qh) (n w : Nat) (hw : c.Width = w) (hww : w = 0 ∨ w = 1 ∨ w = 2 ∨ w = 4 ∨ w = 8) (hn : n < 256 ^ w) : U0 N c (n : Int) = some (Vz c n) := by
 simp only [U0, Qiy, Option.bind_some, Qd, Q1g, Vz]
 cases hs : (Ul c.Kind).2
 ·simp
 ·simp only [if_true, true_and, hw]
  rcases hww with rfl | hww
  ·simp
  rcases hww with rfl | rfl | rfl | rfl
  ·rw [if_pos (by omega), Zm (8 * ((1 : Nat) : Int)) (by omega), Zm _ (by omega), if_pos (by decide)]
   simp only [Nat.pow_one] at hn
   simp only [Q6a, Jh, Q56]
   simp only [Option.some.injEq]
   rw [show min (Int.toNat (64 - 8 * ((1 : Nat) : Int))) IntKind.u64.bits = 56 from rfl, show min (Int.toNat (64 - 8 * ((1 : Nat) : Int))) IntKind.i64.bits = 56 from rfl]
   simp only [IntKind.wrap, IntKind.bits, IntKind.signed]
   rw [Int.fdiv_eq_ediv_of_nonneg _ (by decide)]
   simp
   split <;> split <;> omega
  ·rw [if_pos (by omega), Zm (8 * ((2 : Nat) : Int)) (by omega), Zm _ (by omega), if_pos (by decide)]
   simp at hn
   simp only [Q6a, Jh, Q56]
   simp only [Option.some.injEq]
   rw [show min (Int.toNat (64 - 8 * ((2 : Nat) : Int))) IntKind.u64.bits = 48 from rfl, show min (Int.toNat (64 - 8 * ((2 : Nat) : Int))) IntKind.i64.bits = 48 from rfl]
   simp only [IntKind.wrap, IntKind.bits, IntKind.signed]
   rw [Int.fdiv_eq_ediv_of_nonneg _ (by decide)]
   simp
   split <;> split <;> omega
  ·rw [if_pos (by omega), Zm (8 * ((4 : Nat) : Int)) (by omega), Zm _ (by omega), if_pos (by decide)]
   simp at hn
   simp only [Q6a, Jh, Q56]
   simp only [Option.some.injEq]
   rw [show min (Int.toNat (64 - 8 * ((4 : Nat) : Int))) IntKind.u64.bits = 32 from rfl, show min (Int.toNat (64 - 8 * ((4 : Nat) : Int))) IntKind.i64.bits = 32 from rfl]
   simp only [IntKind.wrap, IntKind.bits, IntKind.signed]
   rw [Int.fdiv_eq_ediv_of_nonneg _ (by decide)]
   simp
   split <;> split <;> omega
  ·rw [if_pos (by omega), Zm (8 * ((8 : Nat) : Int)) (by omega), Zm _ (by omega), if_pos (by decide)]
   simp at hn
   simp only [Q6a, Jh, Q56]
   simp only [Option.some.injEq]
   rw [show min (Int.toNat (64 - 8 * ((8 : Nat) : Int))) IntKind.u64.bits = 0 from rfl, show min (Int.toNat (64 - 8 * ((8 : Nat) : Int))) IntKind.i64.bits = 0 from rfl]
   simp only [IntKind.wrap, IntKind.bits, IntKind.signed]
   rw [Int.fdiv_eq_ediv_of_nonneg _ (by decide)]
   simp
   split <;> omega
end
end Go.Av
namespace Go.Av
noncomputable section
open Go.Proofs
set_option maxRecDepth 100000
theorem Q3c {code : Int} {v : Q0} (h : Q4w code v = true) : ofB code = true ∧ (ofS code).Kind = v.Kind ∧ Jg v = 0 ∧ Q5a (ofS code) v = true := by
 simp only [Q4w, Bool.and_eq_true, decide_eq_true_eq] at h
 exact ⟨h.1.1.1, h.1.1.2, h.1.2, h.2⟩
theorem Qm0 : okU 0 := ⟨by decide, by decide⟩
theorem Qqo : okU 1 := ⟨by decide, by decide⟩
inductive Qqr (c : Qh) : Prop
 | sized (w : Nat) (hs : c.Sized = true) (hw : c.Width = w) (h : w = 1 ∨ w = 4) (hk : 19 ≤ c.Kind ∧ c.Kind ≤ 21) (hc : c.Code ≠ 65)
 | wide (hs : c.Sized = false) (hw : c.Width = 16) (hk : c.Kind = 15 ∨ c.Kind = 18) (hc : c.Code ≠ 65)
 | num (w : Nat) (hs : c.Sized = false) (hw : c.Width = w) (h : w = 0 ∨ w = 1 ∨ w = 2 ∨ w = 4 ∨ w = 8) (ht : G7 c.Kind = false) (hc : c.Code = 65 → w = 0 ∧ c.Kind = 2) (hb : 2 ≤ w → (Ul c.Kind).1 = 8 * w)
theorem Well.shape {code : Int} {c : Qh} (h : Well code c) (hi : c.Items = false) : Qqr c := by
 cases hs : c.Sized with
 | true =>
  obtain ⟨h1, h2, h3, h4⟩ := h.sized hi hs
  rcases h1 with h1 | h1
  ·exact .sized 1 hs h1 (.inl rfl) ⟨h2, h3⟩ h4
  ·exact .sized 4 hs h1 (.inr rfl) ⟨h2, h3⟩ h4
 | false =>
  by_cases h16 : c.Width = 16
  ·obtain ⟨h1, h2⟩ := h.wide hi hs h16
   exact .wide hs h16 h1 h2
  ·obtain ⟨h1, h2, h3, h4⟩ := h.num hi hs h16
   have hw : c.Width = (c.Width.toNat : Nat) := by omega
   refine .num c.Width.toNat hs hw (by omega) h1 (fun hc => ?_) (fun hb => ?_)
   ·obtain ⟨q1, q2⟩ := h3 hc
    exact ⟨by omega, q2⟩
   ·have := h4 (by omega)
    omega
theorem Q27 {code : Int} {c : Qh} (h : Well code c) (hk : c.Kind ≤ 21) : c.Items = false := by
 rw [h.items]
 exact decide_eq_false (by omega)
theorem Q6i (n : Nat) (h : n < 4611686018427387904) : IntKind.u64.wrap (n : Int) = n := J2 _ (by omega)
theorem Qfm (k : Int) (v : Q0) (n : Int) : (if k = 0 then some (v, n, (0 : Int)) else if k = 2 then some (⟨0, 0, [], []⟩, 0, 5) else some (⟨0, 0, [], []⟩, 0, k)) = some (if k = 0 then (v, n, 0) else (Jt, 0, if k = 2 then 5 else k)) := by
 split
 ·rfl
 ·split <;> rfl
theorem Qmj (N : Nat) (code : Int) (s : List UInt8) (hs : Q74 s) (h : s.length < N) (hN : 20 < N) : J7 N code s = some (Q65 code s) := by
 simp only [J7, Wo, Option.bind_some, Qd, Q65]
 cases hb : ofB code with
 | false => simp only [Bool.not_false, if_true, true_or]; rfl
 | true =>
  have hw := Qgc code hb
  simp only [Bool.not_true, Bool.false_eq_true, if_false, Bool.true_eq_false, false_or]
  cases hi : (ofS code).Items with
  | true => rfl
  | false =>
   simp only [Bool.false_eq_true, if_false]
   generalize ofS code = c at *
   have hz : (0 : Int) = ((0 : Nat) : Int) := rfl
   cases hw.shape hi with
   | sized w hsz hw' h12 hk hc =>
    rw [hsz, hw', Q3n N s w hs (by omega) (by omega)]
    simp only [if_true, Option.bind_some, Int.toNat_natCast]
    by_cases hl : w ≤ s.length
    ·rw [if_pos hl]
     simp only []
     rw [Q3e N s w 0 hl, if_neg (by omega)]
     simp only [Option.bind_some, Q1g]
     have hlt := Jn (s.take w)
     have h4 : 256 ^ (s.take w).length ≤ 256 ^ 4 := Nat.pow_le_pow_right (by omega) (by rw [List.length_take]; omega)
     have h5 : (256 : Nat) ^ 4 = 4294967296 := rfl
     unfold Q74 at hs
     rw [Q6i _ (by omega)]
     generalize hm : Vo (s.take w) = m at *
     by_cases h6 : s.length - w < m
     ·rw [if_pos (by omega), if_pos h6]; rfl
     ·rw [if_neg (by omega), if_neg h6]
      rw [Zm _ (by omega), Q1d N s w m (by unfold Q74; omega) hl (by omega), if_pos (by omega)]
      have hcl : ((s.drop w).take m).length ≤ s.length := by rw [List.length_take, List.length_drop]; omega
      simp only [Option.bind_some, Qn, Qs, Wt]
      rw [if_neg (by simp), Q6f N _ Qm0 (by dsimp only; omega) (by dsimp only; omega)]
      simp only [Option.bind_some, Ve]
      rw [Qfm]
      unfold Qh4
      rw [show ((w + m : Nat) : Int) = (w : Int) + (m : Int) by push_cast; rfl]
    ·rw [if_neg hl, if_pos (by omega)]
     simp only []
     have := Q3e N s 0 3 (by omega)
     rw [← hz] at this
     rw [this]
     simp only [Option.bind_some, Q1g]
     unfold Q74 at hs
     rw [Q6i _ (by omega), if_neg (by omega)]
     have e0 : Qr N ⟨s, 0, 3⟩ (IntKind.i64.wrap 0) = some ([], ⟨s, 0, 3⟩) := by
      simp only [Qr, Wk, Option.bind_some, Qd]
      rfl
     rw [e0]
     simp only [Option.bind_some, Qn, Wt]
     rw [if_pos (by decide)]; rfl
   | wide hsz hw' hk hc =>
    rw [hsz, hw']
    simp only [Bool.false_eq_true, if_false, Ve, if_true]
    have := Q1d N s 0 16 hs (by omega) (by omega)
    rw [← hz, show ((16 : Nat) : Int) = 16 from rfl] at this
    rw [this]
    simp only [Nat.sub_zero, List.drop_zero, Option.bind_some]
    by_cases hl : 16 ≤ s.length
    ·rw [if_pos hl, if_neg (by omega)]
     have hcl : (s.take 16).length ≤ s.length := by rw [List.length_take]; omega
     unfold Q74 at hs
     simp only [Option.bind_some, Qn, Qs, Wt]
     rw [if_neg (by simp), Q6f N _ Qm0 (by dsimp only; omega) (by dsimp only; omega)]
     simp only [Option.bind_some]
     rw [Qfm]
     rfl
    ·rw [if_neg hl, if_pos (by omega)]
     simp only [Qn, Option.bind_some, Wt]
     rw [if_pos (by decide)]; rfl
   | num w hsz hw' hh ht hc hbb =>
    rw [hsz, hw']
    simp only [Bool.false_eq_true, if_false, Ve, Int.toNat_natCast]
    rw [if_neg (by omega), if_neg (show ¬ ((w : Int) = 16) by omega)]
    by_cases h65 : c.Code = 65
    ·obtain ⟨rfl, hk2⟩ := hc h65
     rw [if_pos h65, if_pos h65, if_neg (by omega)]
     simp only [Option.bind_some, Qn, Qs, Wt]
     rw [if_neg (by simp), Q6f N _ Qqo (by simp only [List.length_nil]; omega) (by simp only [List.length_nil]; omega)]
     simp only [Option.bind_some]
     rw [Qfm]
     rfl
    ·rw [if_neg h65, if_neg h65, Q3n N s w hs (by omega) (by omega)]
     simp only [Option.bind_some]
     by_cases hl : w ≤ s.length
     ·rw [if_pos hl, if_neg (by omega)]
      have hlt := Jn (s.take w)
      rw [List.length_take, Nat.min_eq_left hl] at hlt
      simp only []
      rw [Qev N c _ w hw' hh hlt]
      simp only [Option.bind_some, Qn, Qs, Wt]
      have hu : okU (Vz c (Vo (s.take w) : Nat)) := by
       rcases hh with rfl | hh
       ·have : Vz c (Vo (s.take 0) : Nat) = 0 := by
         unfold Vz
         rw [if_neg (by omega)]; rfl
        rw [this]; exact ⟨by decide, by decide⟩
       ·exact (Q7m hw' (by omega) hlt).1
      rw [if_neg (by simp), Q6f N _ hu (by simp only [List.length_nil]; omega) (by simp only [List.length_nil]; omega)]
      simp only [Option.bind_some]
      rw [Qfm]
      rfl
     ·rw [if_neg hl, if_pos (by omega)]
      simp only []
      rw [hz, Qev N c 0 w hw' hh (Nat.pow_pos (by omega))]
      simp only [Option.bind_some, Qn, Wt]
      rw [if_pos (by decide)]; rfl
end
end Go.Av
namespace Go.Av
noncomputable section
open Go.Proofs
set_option maxRecDepth 100000
theorem Q0.ext' {v w : Q0} (h1 : v.Kind = w.Kind) (h2 : v.N' = w.N') (h3 : v.Text = w.Text) (h4 : v.Items = w.Items) : v = w := by
 cases v; cases w; simp_all
theorem Q7y {k : Int} (h : 19 ≤ k ∧ k ≤ 21) : G7 k = true := by
 unfold G7; exact decide_eq_true (by omega)
theorem Qg1 {k : Int} (h : k = 15 ∨ k = 18) : G7 k = true := by
 unfold G7; exact decide_eq_true (by omega)
theorem Q6d {code : Int} {v : Q0} (hf : Q4w code v = true) : (Gk (ofS code) v).length = (ofS code).Width.toNat + (if (ofS code).Sized then v.Text.length else 0) := by
 obtain ⟨f1, f2, f3, f4⟩ := Q3c hf
 obtain ⟨c1, c2, c3, c4, c5, c6, c7⟩ := Q1i f3
 have hw := Qgc code f1
 have hi := Q27 hw (by omega)
 unfold Gk
 cases hw.shape hi with
 | sized w hs hw' h12 hk hc => rw [hs]; simp [Q2g]
 | wide hs hw' hk hc =>
  rw [hs, hw']
  simp [c6 (by omega)]
 | num w hs hw' hh ht hc hbb =>
  rw [hs, hw']
  simp only [Bool.false_eq_true, if_false]
  rw [if_neg (by omega), Q2g]; rfl
theorem Qkf {code : Int} {v : Q0} {w : Nat} (_hn : okU v.N') (hf : Q4w code v = true) (hs : (ofS code).Sized = false) (hw' : (ofS code).Width = w) (hh : w = 1 ∨ w = 2 ∨ w = 4 ∨ w = 8) (h65 : (ofS code).Code ≠ 65)
  (hbb : 2 ≤ w → (Ul (ofS code).Kind).1 = 8 * w) : Jy v.N' (8 * w) (Ul (ofS code).Kind).2 = true := by
 obtain ⟨f1, f2, f3, f4⟩ := Q3c hf
 obtain ⟨c1, c2, c3, c4, c5, c6, c7⟩ := Q1i f3
 unfold Q5a at f4
 rw [if_neg h65, hs, hw'] at f4
 simp only [Bool.false_eq_true, if_false] at f4
 rw [if_neg (by omega)] at f4
 by_cases h1 : w = 1
 ·subst h1
  rw [if_pos (by decide)] at f4
  exact f4
 ·simp only [Q6h, Bool.and_eq_true] at c3
  have := c3.1
  rw [← f2, hbb (by omega)] at this
  exact this
theorem Qpp {code : Int} {v : Q0} (hn : okU v.N') (hf : Q4w code v = true) (s : List UInt8) : Q65 code (Gk (ofS code) v ++ s) = (v, ((Gk (ofS code) v).length : Int), 0) := by
 have hlen := Q6d hf
 obtain ⟨f1, f2, f3, f4⟩ := Q3c hf
 obtain ⟨c1, c2, c3, c4, c5, c6, c7⟩ := Q1i f3
 have hw := Qgc code f1
 have hi := Q27 hw (by omega)
 have nf := fun w => Qkf (w := w) hn hf
 unfold Q65
 rw [f1, hi, if_neg (by simp)]
 have hd : Gk (ofS code) v = Gk (ofS code) v := rfl
 unfold Gk at hd hlen ⊢
 cases hw.shape hi with
 | sized w hs hw' h12 hk hc =>
  simp only [hs, hw', if_true, Int.toNat_natCast, List.append_assoc]
  have hbl := Q2g w v.Text.length
  have e1 : (Q98 v.Text.length w ++ (v.Text ++ s)).take w = Q98 v.Text.length w := List.take_left' hbl
  have e2 : (Q98 v.Text.length w ++ (v.Text ++ s)).drop w = v.Text ++ s := List.drop_left' hbl
  have htx : G7 v.Kind = true := Q7y (by omega)
  have hn0 := Qc7 htx c3 hn.1
  have e3 : v.Text.length % 256 ^ w = v.Text.length := by
   apply Nat.mod_eq_of_lt
   unfold Q5a at f4
   rw [if_neg hc, hs, if_pos rfl, hw'] at f4
   rcases h12 with rfl | rfl
   ·simp at f4; omega
   ·omega
  rw [e1, e2, Q64, e3, List.take_left' rfl]
  rw [if_neg (by simp [hbl]; omega), if_neg (by simp [hbl])]
  have ev : (⟨(ofS code).Kind, 0, v.Text, []⟩ : Q0) = v := Q0.ext' f2 hn0.symm rfl c4.symm
  rw [ev, Qh4, if_pos f3]
  simp [hbl]
 | wide hs hw' hk hc =>
  simp only [hs, hw', Bool.false_eq_true, if_false, if_true]
  have h16 := c6 (by omega)
  have htx : G7 v.Kind = true := Qg1 (by omega)
  have hn0 := Qc7 htx c3 hn.1
  rw [if_neg (by simp [h16]; omega), List.take_left' h16]
  have ev : (⟨(ofS code).Kind, 0, v.Text, []⟩ : Q0) = v := Q0.ext' f2 hn0.symm rfl c4.symm
  rw [ev, Qh4, if_pos f3]
  simp [h16]
 | num w hs hw' hh ht hc hbb =>
  simp only [hs, hw', Bool.false_eq_true, if_false, Int.toNat_natCast]
  have h16 : ¬ ((w : Int) = 16) := by omega
  have hbl := Q2g w v.N'.toNat
  have ht0 := c5 (by rw [← f2]; exact ht)
  simp only [h16, if_false]
  rw [if_neg (by simp [hbl]; omega)]
  by_cases h65 : (ofS code).Code = 65
  ·obtain ⟨rfl, hk2⟩ := hc h65
   rw [if_pos h65]
   have hn1 : v.N' = 1 := by
    unfold Q5a at f4
    rw [if_pos h65] at f4
    simpa using f4
   have ev : (⟨(ofS code).Kind, 1, [], []⟩ : Q0) = v := Q0.ext' f2 hn1.symm ht0.symm c4.symm
   rw [ev, Qh4, if_pos f3]
   simp [hbl]
  ·rw [if_neg h65, List.take_left' hbl, Q64]
   have e : Vz (ofS code) ((v.N'.toNat % 256 ^ w : Nat) : Int) = v.N' := by
    rcases hh with rfl | hh
    ·unfold Q5a at f4
     rw [if_neg h65, hs, hw'] at f4
     simp at f4
     unfold Vz
     rw [if_neg (by omega), f4]; rfl
    ·exact Qii hw' hh hn (nf w hs hw' hh h65 hbb)
   rw [e]
   have ev : (⟨(ofS code).Kind, v.N', [], []⟩ : Q0) = v := Q0.ext' f2 rfl ht0.symm c4.symm
   rw [ev, Qh4, if_pos f3]
   simp [hbl]
end
end Go.Av
namespace Go.Av
noncomputable section
open Go.Proofs
set_option maxRecDepth 100000
theorem Qeu {v x : Q0} {n m : Int} (h : Qh4 v n = (x, m, 0)) : Jg v = 0 ∧ x = v ∧ m = n := by
 unfold Qh4 at h
 split at h
 ·rename_i h0
  cases h
  exact ⟨h0, rfl, rfl⟩
 ·rename_i h0
  simp only [Prod.mk.injEq] at h
  split at h <;> omega
theorem reads {code : Int} {s : List UInt8} {x : Q0} {n : Int} (hs : Q74 s) (h : Q65 code s = (x, n, 0)) : 0 ≤ n ∧ n ≤ s.length ∧ okU x.N' ∧ x.Text.length ≤ s.length ∧ Jg x = 0 ∧ Q4w code x = true ∧ Gk (ofS code) x = s.take n.toNat := by
 unfold Q65 at h
 split at h
 ·cases h
 rename_i h1
 have hb : ofB code = true := by
  cases hb : ofB code with
  | true => rfl
  | false => exact absurd (.inl hb) h1
 have hi : (ofS code).Items = false := by
  cases hi : (ofS code).Items with
  | false => rfl
  | true => exact absurd (.inr hi) h1
 have hw := Qgc code hb
 split at h
 ·cases h
 rename_i h2
 have fit : ∀ v : Q0, v.Kind = (ofS code).Kind → Jg v = 0 → Q5a (ofS code) v = true → Q4w code v = true := fun v q1 q2 q3 => by
  simp only [Q4w, hb, q1, q2, q3, decide_true, Bool.and_self]
 have hd : ∀ v, Gk (ofS code) v = Gk (ofS code) v := fun _ => rfl
 unfold Q74 at hs
 cases hw.shape hi with
 | sized w hsz hw' h12 hk hc =>
  simp only [hsz, hw', if_true, Int.toNat_natCast] at h
  split at h
  ·cases h
  rename_i h3
  obtain ⟨q1, rfl, rfl⟩ := Qeu h
  have hlw : w ≤ s.length := by omega
  have hmlt := Jn (s.take w)
  rw [List.length_take, Nat.min_eq_left hlw] at hmlt
  have hbn := Qit (s.take w)
  rw [List.length_take, Nat.min_eq_left hlw] at hbn
  generalize hm : Vo (s.take w) = m at *
  have hlen : ((s.drop w).take m).length = m := by rw [List.length_take, List.length_drop]; omega
  refine ⟨by omega, by omega, Qm0, by simp only [hlen]; omega, q1, fit _ rfl q1 ?_, ?_⟩
  ·unfold Q5a
   rw [if_neg hc, hsz, if_pos rfl, hw']
   rcases h12 with rfl | rfl
   ·simp only [hlen]
    simp at hmlt
    exact decide_eq_true (.inr (by omega))
   ·exact decide_eq_true (.inl rfl)
  ·unfold Gk
   simp only [hsz, if_true, hw', Int.toNat_natCast, hlen, hbn]
   rw [show ((w : Int) + (m : Int)).toNat = w + m by omega, List.take_add]
 | wide hsz hw' hk hc =>
  simp only [hsz, hw', Bool.false_eq_true, if_false, if_true] at h
  obtain ⟨q1, rfl, rfl⟩ := Qeu h
  refine ⟨by omega, by omega, Qm0, by simp only [List.length_take]; omega, q1, fit _ rfl q1 ?_, ?_⟩
  ·unfold Q5a
   rw [if_neg hc, hsz, hw']; rfl
  ·unfold Gk
   simp only [hsz, hw', Bool.false_eq_true, if_false, if_true]
   rfl
 | num w hsz hw' hh ht hc hbb =>
  simp only [hsz, hw', Bool.false_eq_true, if_false, Int.toNat_natCast] at h
  rw [if_neg (show ¬ ((w : Int) = 16) by omega)] at h
  split at h
  ·rename_i h65
   obtain ⟨rfl, hk2⟩ := hc h65
   obtain ⟨q1, rfl, rfl⟩ := Qeu h
   refine ⟨by omega, by omega, Qqo, by simp, q1, fit _ rfl q1 ?_, ?_⟩
   ·unfold Q5a
    rw [if_pos h65]; rfl
   ·unfold Gk
    simp only [hsz, hw', Bool.false_eq_true, if_false]
    rfl
  ·rename_i h65
   obtain ⟨q1, rfl, rfl⟩ := Qeu h
   have hlw : w ≤ s.length := by omega
   have hlt := Jn (s.take w)
   have hbn := Qit (s.take w)
   rw [List.length_take, Nat.min_eq_left hlw] at hlt hbn
   rcases hh with rfl | hh
   ·have e0 : Vz (ofS code) (Vo (s.take 0) : Nat) = 0 := by
     unfold Vz
     rw [if_neg (by omega)]; rfl
    rw [e0] at q1 ⊢
    refine ⟨by omega, by omega, Qm0, by simp, q1, fit _ rfl q1 ?_, ?_⟩
    ·unfold Q5a
     rw [if_neg h65, hsz, hw']; rfl
    ·unfold Gk
     simp only [hsz, hw', Bool.false_eq_true, if_false]
     rfl
   ·obtain ⟨w1, w2, w3⟩ := Q7m hw' hh hlt
    refine ⟨by omega, by omega, w1, by simp, q1, fit _ rfl q1 ?_, ?_⟩
    ·unfold Q5a
     rw [if_neg h65, hsz, hw']
     simp only [Bool.false_eq_true, if_false]
     rw [if_neg (by omega)]
     split
     ·rename_i h1
      have : w = 1 := by omega
      subst this
      exact w3
     ·rfl
    ·unfold Gk
     simp only [hsz, hw', Bool.false_eq_true, if_false, Int.toNat_natCast]
     rw [if_neg (by omega), ← Qf8, w2, hbn]
end
end Go.Av
namespace Go.Av
noncomputable section
open Go.Proofs
set_option maxRecDepth 100000
def refTab : List Qh := (Xy 0).getD []
theorem Qju (N : Nat) : Xy N = some refTab := rfl
theorem Q8q : refTab.length = 40 := rfl
def Qop (c : Qh) : Int × Int × Int × Bool × Bool := (c.Code, c.Kind, c.Width, c.Sized, c.Items)
theorem Ql4 {c d : Qh} (h : Qop c = Qop d) : c = d := by
 cases c; cases d
 simp only [Qop, Prod.mk.injEq] at h
 simp [h]
def Qqi : Option Qh → Qh × Bool
 | some c => (c, true)
 | none => (⟨0, 0, 0, false, false⟩, false)
theorem Qf7 (N : Nat) (code : Int) (l : List Qh) (hl : l.length < 1000) : ∀ (n i : Nat), i ≤ l.length → l.length - i < n → Xf N code l n (i : Int) = some (Qqi ((l.drop i).find? (fun c => decide (c.Code = code))))
 | 0, i, _, h => by omega
 | n + 1, i, hi, hn => by
  simp only [Xf, Qd, V0, Ve, Vh, U3]
  by_cases h : i < l.length
  ·rw [if_pos (by omega), List.getElem?_eq_getElem h, List.drop_eq_getElem_cons h, List.find?_cons]
   simp only [Option.bind_some]
   by_cases hc : l[i].Code = code
   ·rw [if_pos hc, decide_eq_true hc]; rfl
   ·rw [if_neg hc, decide_eq_false hc, Zm _ (by omega)]
    exact_mod_cast Qf7 N code l hl n (i + 1) (by omega) (by omega)
  ·rw [if_neg (by omega), List.drop_of_length_le (by omega)]; rfl
def Qrh (n : Nat) : Bool := decide ((Qop (Qqi (refTab.find? (fun c => decide (c.Code = (n : Int))))).1, (Qqi (refTab.find? (fun c => decide (c.Code = (n : Int))))).2) = (Qop (ofS n), ofB n))
theorem Ql9 : ((List.range 256).all Qrh) = true := by decide +kernel
theorem Qhh {code : Int} (h : ofB code = true) : 0 ≤ code ∧ code < 256 := by
 have h1 : bsI code < 40 ∧ Uo (bsI code) = code := by simpa [ofB] using h
 have hall : ((List.range 40).all fun k => decide (0 ≤ Uo k ∧ Uo k < 256)) = true := by decide +kernel
 have := List.all_eq_true.1 hall (bsI code) (by simpa using h1.1)
 rw [h1.2] at this
 simpa using this
theorem Qh8 : (refTab.all fun c => decide (0 ≤ c.Code ∧ c.Code < 256)) = true := by decide +kernel
theorem Q61 (N : Nat) (code : Int) (hN : 50 < N) : Yz N code = some (ofS code, ofB code) := by
 simp only [Yz, Qju, Option.bind_some]
 have := Qf7 N code refTab (by rw [Q8q]; omega) N 0 (by omega) (by rw [Q8q]; omega)
 rw [show ((0 : Nat) : Int) = 0 from rfl] at this
 rw [this, List.drop_zero, Option.some.injEq]
 by_cases h : 0 ≤ code ∧ code < 256
 ·have h1 := List.all_eq_true.1 Ql9 code.toNat (by simp; omega)
  simp only [Qrh, show ((code.toNat : Nat) : Int) = code by omega, decide_eq_true_eq, Prod.mk.injEq] at h1
  exact Prod.ext (Ql4 h1.1) h1.2
 ·have hb : ofB code = false := by
   cases hb : ofB code with
   | false => rfl
   | true => exact absurd (Qhh hb) h
  have hf : refTab.find? (fun c => decide (c.Code = code)) = none := by
   rw [List.find?_eq_none]
   intro c hc hcc
   have := List.all_eq_true.1 Qh8 c hc
   simp only [decide_eq_true_eq] at this hcc
   omega
  rw [hf, hb, Qlw code hb]; rfl
theorem Qkh (s : List UInt8) (i k lo hi : Nat) : inB (s.drop i) k lo hi = inB s (i + k) lo hi := by
 unfold inB
 rw [List.getElem?_drop]
theorem Q0w (N : Nat) (s : List UInt8) (i k lo hi : Nat) : Q6 N s ((i + k : Nat) : Int) (lo : Int) (hi : Int) = some (inB (s.drop i) k lo hi) := by
 rw [Qkh]
 simp only [Q6, Qd, V0, Q60, U3, inB]
 by_cases h : i + k < s.length
 ·rw [if_pos (by omega), List.getElem?_eq_getElem h]
  simp only [Option.bind_some]
  by_cases h1 : lo ≤ s[i + k].toNat
  ·rw [if_pos (by omega)]
   simp only [Q7, h1, true_and, Option.some.injEq, decide_eq_decide]; omega
  ·rw [if_neg (by omega)]
   simp only [h1, false_and, decide_false]
 ·rw [if_neg (by omega), List.getElem?_eq_none (by omega)]
def cpB (s : List UInt8) (b : Nat) : Nat := if b < 128 then 1
  else if 194 ≤ b ∧ b ≤ 223 then (if inB s 1 128 191 then 2 else 0)
  else if b = 224 then (if inB s 1 160 191 && inB s 2 128 191 then 3 else 0)
  else if b = 237 then (if inB s 1 128 159 && inB s 2 128 191 then 3 else 0)
  else if 225 ≤ b ∧ b ≤ 239 then (if inB s 1 128 191 && inB s 2 128 191 then 3 else 0)
  else if b = 240 then (if inB s 1 144 191 && inB s 2 128 191 && inB s 3 128 191 then 4 else 0)
  else if 241 ≤ b ∧ b ≤ 243 then (if inB s 1 128 191 && inB s 2 128 191 && inB s 3 128 191 then 4 else 0)
  else if b = 244 then (if inB s 1 128 143 && inB s 2 128 191 && inB s 3 128 191 then 4 else 0)
  else 0
theorem Qg2 (b : Nat) : (b < 128) ∨ (194 ≤ b ∧ b ≤ 223) ∨ (b = 224) ∨ (b = 237) ∨ (225 ≤ b ∧ b ≤ 239 ∧ b ≠ 237) ∨ (b = 240) ∨ (241 ≤ b ∧ b ≤ 243) ∨ (b = 244) ∨ (128 ≤ b ∧ b < 194) ∨ (244 < b) := by omega
theorem Qn2 (N : Nat) (s : List UInt8) (i : Nat) (hb : s.length < 4611686018427387904) (hi : i < s.length) : Wg N s (i : Int) = some ((cpN (s.drop i) : Nat) : Int) := by
 have e1 : IntKind.i64.wrap ((i : Int) + 1) = ((i + 1 : Nat) : Int) := by rw [Zm _ (by omega)]; push_cast; rfl
 have e2 : IntKind.i64.wrap ((i : Int) + 2) = ((i + 2 : Nat) : Int) := by rw [Zm _ (by omega)]; push_cast; rfl
 have e3 : IntKind.i64.wrap ((i : Int) + 3) = ((i + 3 : Nat) : Int) := by rw [Zm _ (by omega)]; push_cast; rfl
 have c0 : Q6 N s ((i + 1 : Nat) : Int) 128 191 = some (inB (s.drop i) 1 128 191) := Q0w N s i 1 128 191
 have c1 : Q6 N s ((i + 2 : Nat) : Int) 128 191 = some (inB (s.drop i) 2 128 191) := Q0w N s i 2 128 191
 have c2 : Q6 N s ((i + 3 : Nat) : Int) 128 191 = some (inB (s.drop i) 3 128 191) := Q0w N s i 3 128 191
 have c3 : Q6 N s ((i + 1 : Nat) : Int) 160 191 = some (inB (s.drop i) 1 160 191) := Q0w N s i 1 160 191
 have c4 : Q6 N s ((i + 1 : Nat) : Int) 128 159 = some (inB (s.drop i) 1 128 159) := Q0w N s i 1 128 159
 have c5 : Q6 N s ((i + 1 : Nat) : Int) 144 191 = some (inB (s.drop i) 1 144 191) := Q0w N s i 1 144 191
 have c6 : Q6 N s ((i + 1 : Nat) : Int) 128 143 = some (inB (s.drop i) 1 128 143) := Q0w N s i 1 128 143
 have hd : s.drop i = s[i] :: s.drop (i + 1) := List.drop_eq_getElem_cons hi
 have hcp : cpN (s.drop i) = cpB (s.drop i) s[i].toNat := by
  rw [hd]; rfl
 rw [hcp]
 simp only [Wg, Yt, Zu, Yw, Yr, Zf, Y7, Zt, U3, List.getElem?_eq_getElem hi, Option.bind_some, Qd, V0, Q60, Qbz, Ve, Wt, e1, e2, e3]
 simp only [c0, c1, c2, c3, c4, c5, c6, Option.bind_some, cpB]
 generalize s[i].toNat = b
 generalize inB (s.drop i) 1 128 191 = q1
 generalize inB (s.drop i) 2 128 191 = q2
 generalize inB (s.drop i) 3 128 191 = q3
 generalize inB (s.drop i) 1 160 191 = q4
 generalize inB (s.drop i) 1 128 159 = q5
 generalize inB (s.drop i) 1 144 191 = q6
 generalize inB (s.drop i) 1 128 143 = q7
 rcases Qg2 b with h | h | h | h | h | h | h | h | h | h
 ·simp only [show ((b : Int) < 128) = True from eq_true (by omega), show ((b : Int) ≥ 194) = False from eq_false (by omega), show ((b : Int) ≤ 223) = True from eq_true (by omega), show ((b : Int) = 224) = False from eq_false (by omega), show ((b : Int) = 237) = False from eq_false (by omega), show ((b : Int) ≥ 225) = False from eq_false (by omega), show ((b : Int) ≤ 239) = True from eq_true (by omega), show ((b : Int) ≠ 237) = True from eq_true (by omega), show ((b : Int) = 240) = False from eq_false (by omega), show ((b : Int) ≥ 241) = False from eq_false (by omega), show ((b : Int) ≤ 243) = True from eq_true (by omega), show ((b : Int) = 244) = False from eq_false (by omega), show (b < 128) = True from eq_true (by omega), show (194 ≤ b ∧ b ≤ 223) = False from eq_false (by omega), show (b = 224) = False from eq_false (by omega), show (b = 237) = False from eq_false (by omega), show (225 ≤ b ∧ b ≤ 239) = False from eq_false (by omega), show (b = 240) = False from eq_false (by omega), show (241 ≤ b ∧ b ≤ 243) = False from eq_false (by omega), show (b = 244) = False from eq_false (by omega), if_true, if_false, ite_self, Bool.false_eq_true]
  try (cases q1 <;> cases q2 <;> cases q3 <;> cases q4 <;> cases q5 <;> cases q6 <;> cases q7 <;> rfl)
 ·simp only [show ((b : Int) < 128) = False from eq_false (by omega), show ((b : Int) ≥ 194) = True from eq_true (by omega), show ((b : Int) ≤ 223) = True from eq_true (by omega), show ((b : Int) = 224) = False from eq_false (by omega), show ((b : Int) = 237) = False from eq_false (by omega), show ((b : Int) ≥ 225) = False from eq_false (by omega), show ((b : Int) ≤ 239) = True from eq_true (by omega), show ((b : Int) ≠ 237) = True from eq_true (by omega), show ((b : Int) = 240) = False from eq_false (by omega), show ((b : Int) ≥ 241) = False from eq_false (by omega), show ((b : Int) ≤ 243) = True from eq_true (by omega), show ((b : Int) = 244) = False from eq_false (by omega), show (b < 128) = False from eq_false (by omega), show (194 ≤ b ∧ b ≤ 223) = True from eq_true (by omega), show (b = 224) = False from eq_false (by omega), show (b = 237) = False from eq_false (by omega), show (225 ≤ b ∧ b ≤ 239) = False from eq_false (by omega), show (b = 240) = False from eq_false (by omega), show (241 ≤ b ∧ b ≤ 243) = False from eq_false (by omega), show (b = 244) = False from eq_false (by omega), if_true, if_false, ite_self, Bool.false_eq_true]
  try (cases q1 <;> cases q2 <;> cases q3 <;> cases q4 <;> cases q5 <;> cases q6 <;> cases q7 <;> rfl)
 ·simp only [show ((b : Int) < 128) = False from eq_false (by omega), show ((b : Int) ≥ 194) = True from eq_true (by omega), show ((b : Int) ≤ 223) = False from eq_false (by omega), show ((b : Int) = 224) = True from eq_true (by omega), show ((b : Int) = 237) = False from eq_false (by omega), show ((b : Int) ≥ 225) = False from eq_false (by omega), show ((b : Int) ≤ 239) = True from eq_true (by omega), show ((b : Int) ≠ 237) = True from eq_true (by omega), show ((b : Int) = 240) = False from eq_false (by omega), show ((b : Int) ≥ 241) = False from eq_false (by omega), show ((b : Int) ≤ 243) = True from eq_true (by omega), show ((b : Int) = 244) = False from eq_false (by omega), show (b < 128) = False from eq_false (by omega), show (194 ≤ b ∧ b ≤ 223) = False from eq_false (by omega), show (b = 224) = True from eq_true (by omega), show (b = 237) = False from eq_false (by omega), show (225 ≤ b ∧ b ≤ 239) = False from eq_false (by omega), show (b = 240) = False from eq_false (by omega), show (241 ≤ b ∧ b ≤ 243) = False from eq_false (by omega), show (b = 244) = False from eq_false (by omega), if_true, if_false, ite_self, Bool.false_eq_true]
  try (cases q1 <;> cases q2 <;> cases q3 <;> cases q4 <;> cases q5 <;> cases q6 <;> cases q7 <;> rfl)
 ·simp only [show ((b : Int) < 128) = False from eq_false (by omega), show ((b : Int) ≥ 194) = True from eq_true (by omega), show ((b : Int) ≤ 223) = False from eq_false (by omega), show ((b : Int) = 224) = False from eq_false (by omega), show ((b : Int) = 237) = True from eq_true (by omega), show ((b : Int) ≥ 225) = True from eq_true (by omega), show ((b : Int) ≤ 239) = True from eq_true (by omega), show ((b : Int) ≠ 237) = False from eq_false (by omega), show ((b : Int) = 240) = False from eq_false (by omega), show ((b : Int) ≥ 241) = False from eq_false (by omega), show ((b : Int) ≤ 243) = True from eq_true (by omega), show ((b : Int) = 244) = False from eq_false (by omega), show (b < 128) = False from eq_false (by omega), show (194 ≤ b ∧ b ≤ 223) = False from eq_false (by omega), show (b = 224) = False from eq_false (by omega), show (b = 237) = True from eq_true (by omega), show (225 ≤ b ∧ b ≤ 239) = True from eq_true (by omega), show (b = 240) = False from eq_false (by omega), show (241 ≤ b ∧ b ≤ 243) = False from eq_false (by omega), show (b = 244) = False from eq_false (by omega), if_true, if_false, ite_self, Bool.false_eq_true]
  try (cases q1 <;> cases q2 <;> cases q3 <;> cases q4 <;> cases q5 <;> cases q6 <;> cases q7 <;> rfl)
 ·simp only [show ((b : Int) < 128) = False from eq_false (by omega), show ((b : Int) ≥ 194) = True from eq_true (by omega), show ((b : Int) ≤ 223) = False from eq_false (by omega), show ((b : Int) = 224) = False from eq_false (by omega), show ((b : Int) = 237) = False from eq_false (by omega), show ((b : Int) ≥ 225) = True from eq_true (by omega), show ((b : Int) ≤ 239) = True from eq_true (by omega), show ((b : Int) ≠ 237) = True from eq_true (by omega), show ((b : Int) = 240) = False from eq_false (by omega), show ((b : Int) ≥ 241) = False from eq_false (by omega), show ((b : Int) ≤ 243) = True from eq_true (by omega), show ((b : Int) = 244) = False from eq_false (by omega), show (b < 128) = False from eq_false (by omega), show (194 ≤ b ∧ b ≤ 223) = False from eq_false (by omega), show (b = 224) = False from eq_false (by omega), show (b = 237) = False from eq_false (by omega), show (225 ≤ b ∧ b ≤ 239) = True from eq_true (by omega), show (b = 240) = False from eq_false (by omega), show (241 ≤ b ∧ b ≤ 243) = False from eq_false (by omega), show (b = 244) = False from eq_false (by omega), if_true, if_false, ite_self, Bool.false_eq_true]
  try (cases q1 <;> cases q2 <;> cases q3 <;> cases q4 <;> cases q5 <;> cases q6 <;> cases q7 <;> rfl)
 ·simp only [show ((b : Int) < 128) = False from eq_false (by omega), show ((b : Int) ≥ 194) = True from eq_true (by omega), show ((b : Int) ≤ 223) = False from eq_false (by omega), show ((b : Int) = 224) = False from eq_false (by omega), show ((b : Int) = 237) = False from eq_false (by omega), show ((b : Int) ≥ 225) = True from eq_true (by omega), show ((b : Int) ≤ 239) = False from eq_false (by omega), show ((b : Int) ≠ 237) = True from eq_true (by omega), show ((b : Int) = 240) = True from eq_true (by omega), show ((b : Int) ≥ 241) = False from eq_false (by omega), show ((b : Int) ≤ 243) = True from eq_true (by omega), show ((b : Int) = 244) = False from eq_false (by omega), show (b < 128) = False from eq_false (by omega), show (194 ≤ b ∧ b ≤ 223) = False from eq_false (by omega), show (b = 224) = False from eq_false (by omega), show (b = 237) = False from eq_false (by omega), show (225 ≤ b ∧ b ≤ 239) = False from eq_false (by omega), show (b = 240) = True from eq_true (by omega), show (241 ≤ b ∧ b ≤ 243) = False from eq_false (by omega), show (b = 244) = False from eq_false (by omega), if_true, if_false, ite_self, Bool.false_eq_true]
  try (cases q1 <;> cases q2 <;> cases q3 <;> cases q4 <;> cases q5 <;> cases q6 <;> cases q7 <;> rfl)
 ·simp only [show ((b : Int) < 128) = False from eq_false (by omega), show ((b : Int) ≥ 194) = True from eq_true (by omega), show ((b : Int) ≤ 223) = False from eq_false (by omega), show ((b : Int) = 224) = False from eq_false (by omega), show ((b : Int) = 237) = False from eq_false (by omega), show ((b : Int) ≥ 225) = True from eq_true (by omega), show ((b : Int) ≤ 239) = False from eq_false (by omega), show ((b : Int) ≠ 237) = True from eq_true (by omega), show ((b : Int) = 240) = False from eq_false (by omega), show ((b : Int) ≥ 241) = True from eq_true (by omega), show ((b : Int) ≤ 243) = True from eq_true (by omega), show ((b : Int) = 244) = False from eq_false (by omega), show (b < 128) = False from eq_false (by omega), show (194 ≤ b ∧ b ≤ 223) = False from eq_false (by omega), show (b = 224) = False from eq_false (by omega), show (b = 237) = False from eq_false (by omega), show (225 ≤ b ∧ b ≤ 239) = False from eq_false (by omega), show (b = 240) = False from eq_false (by omega), show (241 ≤ b ∧ b ≤ 243) = True from eq_true (by omega), show (b = 244) = False from eq_false (by omega), if_true, if_false, ite_self, Bool.false_eq_true]
  try (cases q1 <;> cases q2 <;> cases q3 <;> cases q4 <;> cases q5 <;> cases q6 <;> cases q7 <;> rfl)
 ·simp only [show ((b : Int) < 128) = False from eq_false (by omega), show ((b : Int) ≥ 194) = True from eq_true (by omega), show ((b : Int) ≤ 223) = False from eq_false (by omega), show ((b : Int) = 224) = False from eq_false (by omega), show ((b : Int) = 237) = False from eq_false (by omega), show ((b : Int) ≥ 225) = True from eq_true (by omega), show ((b : Int) ≤ 239) = False from eq_false (by omega), show ((b : Int) ≠ 237) = True from eq_true (by omega), show ((b : Int) = 240) = False from eq_false (by omega), show ((b : Int) ≥ 241) = True from eq_true (by omega), show ((b : Int) ≤ 243) = False from eq_false (by omega), show ((b : Int) = 244) = True from eq_true (by omega), show (b < 128) = False from eq_false (by omega), show (194 ≤ b ∧ b ≤ 223) = False from eq_false (by omega), show (b = 224) = False from eq_false (by omega), show (b = 237) = False from eq_false (by omega), show (225 ≤ b ∧ b ≤ 239) = False from eq_false (by omega), show (b = 240) = False from eq_false (by omega), show (241 ≤ b ∧ b ≤ 243) = False from eq_false (by omega), show (b = 244) = True from eq_true (by omega), if_true, if_false, ite_self, Bool.false_eq_true]
  try (cases q1 <;> cases q2 <;> cases q3 <;> cases q4 <;> cases q5 <;> cases q6 <;> cases q7 <;> rfl)
 ·simp only [show ((b : Int) < 128) = False from eq_false (by omega), show ((b : Int) ≥ 194) = False from eq_false (by omega), show ((b : Int) ≤ 223) = True from eq_true (by omega), show ((b : Int) = 224) = False from eq_false (by omega), show ((b : Int) = 237) = False from eq_false (by omega), show ((b : Int) ≥ 225) = False from eq_false (by omega), show ((b : Int) ≤ 239) = True from eq_true (by omega), show ((b : Int) ≠ 237) = True from eq_true (by omega), show ((b : Int) = 240) = False from eq_false (by omega), show ((b : Int) ≥ 241) = False from eq_false (by omega), show ((b : Int) ≤ 243) = True from eq_true (by omega), show ((b : Int) = 244) = False from eq_false (by omega), show (b < 128) = False from eq_false (by omega), show (194 ≤ b ∧ b ≤ 223) = False from eq_false (by omega), show (b = 224) = False from eq_false (by omega), show (b = 237) = False from eq_false (by omega), show (225 ≤ b ∧ b ≤ 239) = False from eq_false (by omega), show (b = 240) = False from eq_false (by omega), show (241 ≤ b ∧ b ≤ 243) = False from eq_false (by omega), show (b = 244) = False from eq_false (by omega), if_true, if_false, ite_self, Bool.false_eq_true]
  try (cases q1 <;> cases q2 <;> cases q3 <;> cases q4 <;> cases q5 <;> cases q6 <;> cases q7 <;> rfl)
 ·simp only [show ((b : Int) < 128) = False from eq_false (by omega), show ((b : Int) ≥ 194) = True from eq_true (by omega), show ((b : Int) ≤ 223) = False from eq_false (by omega), show ((b : Int) = 224) = False from eq_false (by omega), show ((b : Int) = 237) = False from eq_false (by omega), show ((b : Int) ≥ 225) = True from eq_true (by omega), show ((b : Int) ≤ 239) = False from eq_false (by omega), show ((b : Int) ≠ 237) = True from eq_true (by omega), show ((b : Int) = 240) = False from eq_false (by omega), show ((b : Int) ≥ 241) = True from eq_true (by omega), show ((b : Int) ≤ 243) = False from eq_false (by omega), show ((b : Int) = 244) = False from eq_false (by omega), show (b < 128) = False from eq_false (by omega), show (194 ≤ b ∧ b ≤ 223) = False from eq_false (by omega), show (b = 224) = False from eq_false (by omega), show (b = 237) = False from eq_false (by omega), show (225 ≤ b ∧ b ≤ 239) = False from eq_false (by omega), show (b = 240) = False from eq_false (by omega), show (241 ≤ b ∧ b ≤ 243) = False from eq_false (by omega), show (b = 244) = False from eq_false (by omega), if_true, if_false, ite_self, Bool.false_eq_true]
  try (cases q1 <;> cases q2 <;> cases q3 <;> cases q4 <;> cases q5 <;> cases q6 <;> cases q7 <;> rfl)

end
end Go.Av
namespace Go.Av
noncomputable section
open Go.Proofs
set_option maxRecDepth 100000
theorem Qow (s : List UInt8) : cpN s ≤ 4 := by
 unfold cpN
 split
 ·omega
 ·repeat' split
  all_goals omega
theorem Qjm (N : Nat) (s : List UInt8) (hb : s.length < 4611686018427387000) : ∀ (n i : Nat), s.length - i < n → i ≤ s.length + 4 → Yq N s n (i : Int) = some (Wi (s.drop i))
 | 0, i, h, _ => by omega
 | n + 1, i, h, hi => by
  simp only [Yq, Qd, V0, Ve]
  by_cases h1 : i < s.length
  ·rw [if_pos (by omega), Qn2 N s i (by omega) h1]
   simp only [Option.bind_some]
   have h4 := Qow (s.drop i)
   have hne : s.drop i ≠ [] := by
    intro e
    have := congrArg List.length e
    rw [List.length_drop] at this
    simp at this; omega
   cases hc : cpN (s.drop i) with
   | zero =>
    rw [if_pos (by rfl), Q26 _ hne hc]
   | succ k =>
    rw [if_neg (by omega), Zm _ (by omega), Q0a _ k hc, List.drop_drop]
    have := Qjm N s hb n (i + (k + 1)) (by omega) (by omega)
    rw [show ((i : Int) + ((k + 1 : Nat) : Int)) = ((i + (k + 1) : Nat) : Int) by push_cast; rfl]
    exact this
  ·rw [if_neg (by omega), List.drop_of_length_le (by omega)]; rfl
theorem Qnu (N : Nat) (s : List UInt8) (hb : s.length < 4611686018427387000) (h : s.length < N) : Zp N s = some (Wi s) := by
 have := Qjm N s hb N 0 (by omega) (by omega)
 unfold Zp
 simpa using this
theorem Qee (N : Nat) (s : List UInt8) (hb : s.length < 4611686018427387000) : ∀ (n i : Nat), s.length - i < n → i ≤ s.length → Yj N s n (i : Int) = some (Q1l (s.drop i))
 | 0, i, h, _ => by omega
 | n + 1, i, h, hi => by
  simp only [Yj, Qd, V0, Q60, U3]
  by_cases h1 : i < s.length
  ·rw [if_pos (by omega), List.getElem?_eq_getElem h1]
   simp only [Option.bind_some]
   by_cases h2 : s[i].toNat < 128
   ·rw [if_neg (by omega), Zm _ (by omega), Q8c _ _ h1 h2]
    exact_mod_cast Qee N s hb n (i + 1) (by omega) (by omega)
   ·rw [if_pos (by omega)]
    have : Q1l (s.drop i) = false := by
     rw [List.drop_eq_getElem_cons h1]
     simp only [Q1l, List.all_cons, decide_eq_false h2, Bool.false_and]
    rw [this]
  ·rw [if_neg (by omega), List.drop_of_length_le (by omega)]; rfl
theorem Qka (N : Nat) (s : List UInt8) (hb : s.length < 4611686018427387000) (h : s.length < N) : Qp N s = some (Q1l s) := by
 have := Qee N s hb N 0 (by omega) (by omega)
 unfold Qp
 simpa using this
theorem Q83 (N : Nat) (n b : Int) (hn : okU n) (hb : b = 8 ∨ b = 16 ∨ b = 32) : Xq N n b = some (Jy n b true) := by
 obtain ⟨h0, h1⟩ := hn
 unfold Xq Jy s64
 simp only [Qd, V0]
 rcases hb with rfl | rfl | rfl
 ·rw [if_pos (by decide), show Jh .u64 1 (IntKind.u64.wrap (8 - 1)) = 128 by decide, show IntKind.u64.wrap (0 - 128) = 18446744073709551488 by decide]
  simp only [if_true, Q7]
  split
  ·rename_i h; rw [decide_eq_true]; simp; split <;> omega
  ·rename_i h; rw [Option.some.injEq, decide_eq_decide]; simp; split <;> omega
 ·rw [if_pos (by decide), show Jh .u64 1 (IntKind.u64.wrap (16 - 1)) = 32768 by decide, show IntKind.u64.wrap (0 - 32768) = 18446744073709518848 by decide]
  simp only [if_true, Q7]
  split
  ·rename_i h; rw [decide_eq_true]; simp; split <;> omega
  ·rename_i h; rw [Option.some.injEq, decide_eq_decide]; simp; split <;> omega
 ·rw [if_pos (by decide), show Jh .u64 1 (IntKind.u64.wrap (32 - 1)) = 2147483648 by decide, show IntKind.u64.wrap (0 - 2147483648) = 18446744071562067968 by decide]
  simp only [if_true, Q7]
  split
  ·rename_i h; rw [decide_eq_true]; simp; split <;> omega
  ·rename_i h; rw [Option.some.injEq, decide_eq_decide]; simp; split <;> omega
theorem kinds {k : Int} (h : 1 ≤ k ∧ k ≤ 21) : k = 1 ∨ k = 2 ∨ k = 3 ∨ k = 4 ∨ k = 5 ∨ k = 6 ∨ k = 7 ∨ k = 8 ∨ k = 9 ∨ k = 10 ∨ k = 11 ∨ k = 12 ∨ k = 13 ∨ k = 14 ∨ k = 15 ∨ k = 16 ∨ k = 17 ∨ k = 18 ∨ k = 19 ∨ k = 20 ∨ k = 21 := by omega
theorem rZ (n : Int) (h : okU n) : (some (Q7 .eql n 0) : Option Bool) = some (Jy n 0 false) := by
 have := h.1
 simp only [Jy, Option.some.injEq, Q7, Bool.false_eq_true, if_false]
 rw [Bool.eq_iff_iff]
 simp; omega
theorem rU (n b B : Int) (hb : IntKind.u64.wrap b = b) (h0 : 0 ≤ b) (hB : Jh .u64 1 b = B) (h2 : B = 2 ^ b.toNat) : (if decide (0 ≤ IntKind.u64.wrap b) = true then some (Q7 .lss n (Jh .u64 1 (IntKind.u64.wrap b))) else none) = some (Jy n b false) := by
 rw [hb, if_pos (by simpa using h0), hB, h2]
 simp [Jy, Q7]
theorem r64 (n : Int) (h : okU n) : (some true : Option Bool) = some (Jy n 64 false) := by
 have := h.2
 simp only [Jy, Bool.false_eq_true, if_false]
 rw [decide_eq_true]; simpa using this
theorem Qry (n : Int) (h : okU n) : (some true : Option Bool) = some (Jy n 64 true) := by
 have h1 := h.1
 have h2 := h.2
 unfold Jy s64
 simp only [if_true]
 rw [decide_eq_true]
 simp
 split <;> omega
theorem Qj7 (N : Nat) (v : Q0) (hn : okU v.N') (hk : 1 ≤ v.Kind ∧ v.Kind ≤ 21) : X1 N v = some (Q6h v.Kind v.N') := by
 obtain ⟨k, n, t, is⟩ := v
 simp only at hn hk
 have z := rZ n hn
 have u8 := rU n 8 256 (by decide) (by decide) (by decide) (by decide)
 have u1 := rU n 1 2 (by decide) (by decide) (by decide) (by decide)
 have u16 := rU n 16 65536 (by decide) (by decide) (by decide) (by decide)
 have u32 := rU n 32 4294967296 (by decide) (by decide) (by decide) (by decide)
 have u64 := r64 n hn
 have s64' := Qry n hn
 have s8 := Q83 N n 8 hn (by simp)
 have s16 := Q83 N n 16 hn (by simp)
 have s32 := Q83 N n 32 hn (by simp)
 have w8 : IntKind.u64.wrap (IntKind.i64.wrap (0 - -8)) = 8 := by decide
 have w16 : IntKind.u64.wrap (IntKind.i64.wrap (0 - -16)) = 16 := by decide
 have w32 : IntKind.u64.wrap (IntKind.i64.wrap (0 - -32)) = 32 := by decide
 have tr : ∀ b : Bool, (b && true) = b := by decide
 simp only [X1, Q6h]
 rcases kinds hk with rfl | rfl | rfl | rfl | rfl | rfl | rfl | rfl | rfl | rfl | rfl | rfl | rfl | rfl | rfl | rfl | rfl | rfl | rfl | rfl | rfl
 ·show _ = some (_ && true); rw [tr]; exact z
 ·show _ = some (_ && true); rw [tr]; simp only [show Ql N 2 = some 1 from rfl, Option.bind_some, Qd]; exact u1
 ·show _ = some (_ && true); rw [tr]; simp only [show Ql N 3 = some 8 from rfl, Option.bind_some, Qd]; exact u8
 ·show _ = some (_ && true); rw [tr]; simp only [show Ql N 4 = some 16 from rfl, Option.bind_some, Qd]; exact u16
 ·show _ = some (_ && true); rw [tr]; simp only [show Ql N 5 = some 32 from rfl, Option.bind_some, Qd]; exact u32
 ·show _ = some (_ && true); rw [tr]; exact u64
 ·show _ = some (_ && true); rw [tr]
  simp only [show Ql N 7 = some (-8) from rfl, Option.bind_some, Qd, w8, s8]; rfl
 ·show _ = some (_ && true); rw [tr]
  simp only [show Ql N 8 = some (-16) from rfl, Option.bind_some, Qd, w16, s16]; rfl
 ·show _ = some (_ && true); rw [tr]
  simp only [show Ql N 9 = some (-32) from rfl, Option.bind_some, Qd, w32, s32]; rfl
 ·show _ = some (_ && true); rw [tr]; exact s64'
 ·show _ = some (_ && true); rw [tr]; simp only [show Ql N 11 = some 32 from rfl, Option.bind_some, Qd]; exact u32
 ·show _ = some (_ && true); rw [tr]; exact u64
 ·show _ = some (_ && true); rw [tr]; simp only [show Ql N 13 = some 32 from rfl, Option.bind_some, Qd]; exact u32
 ·show _ = some (_ && true); rw [tr]; exact u64
 ·show _ = some (_ && true); rw [tr]; exact z
 ·show _ = some (_ && Q8o n)
  have e : Wd N n = some (Q8o n) := by
   unfold Wd Q8o
   simp only [Qd, Qbz, V0]
   split
   ·split
    ·rw [decide_eq_true (by omega)]
    ·simp only [Q7, Option.some.injEq, decide_eq_decide]; omega
   ·rw [decide_eq_false (by omega)]
  simp only [show Ql N 16 = some 32 from rfl, Option.bind_some, e]
  show some (Q8o n) = _
  have h0 := hn.1
  cases hc : Q8o n with
  | false => rw [Bool.and_false]
  | true =>
   rw [Bool.and_true]
   unfold Q8o at hc
   simp only [decide_eq_true_eq] at hc
   simp only [show Ul 16 = (32, false) from rfl, Jy, Bool.false_eq_true, if_false]
   rw [decide_eq_true]
   simp; omega
 ·show _ = some (_ && true); rw [tr]; exact s64'
 ·show _ = some (_ && true); rw [tr]; exact z
 ·show _ = some (_ && true); rw [tr]; exact z
 ·show _ = some (_ && true); rw [tr]; exact z
 ·show _ = some (_ && true); rw [tr]; exact z
theorem Ql1 (N : Nat) (k : Int) (h : k ≤ 21) : Xd N k = some (G7 k) := by
 unfold Xd G7
 simp only [Qd, Ve, Q60]
 split
 ·rename_i h1; simp [h1]
 split
 ·simp only [Q7, Option.some.injEq, decide_eq_decide]; omega
 ·rw [decide_eq_false (by omega)]
theorem Qoh (v : Q0) : (((Q0.rows v.Items).length : Int) > 0) = (v.Items ≠ []) := by
 rw [Vc]
 apply propext
 cases v.Items <;> simp
theorem Qdz (N : Nat) (v : Q0) (hn : okU v.N') (h : v.Text.length < N) (hb : v.Text.length < 4611686018427387000) : Zh N v = some (Jg v) := by
 simp only [Zh, Qd, Ve, V0, Q1g, Wt, J4, Qnu N v.Text hb h, Qka N v.Text hb h, Qoh, Option.bind_some]
 have e3 : ((v.Text.length : Int) ≠ 16) = (v.Text.length ≠ 16) := by apply propext; omega
 have e4 : ((1048576 : Int) < v.Text.length) = (1048576 < v.Text.length) := by apply propext; omega
 have e4' : ((v.Text.length : Int) > 1048576) = (1048576 < v.Text.length) := by apply propext; omega
 simp only [e3, e4, gt_iff_lt]
 unfold Jg
 by_cases h1 : v.Kind < 1
 ·rw [if_pos (show v.Kind < 1 ∨ 21 < v.Kind from .inl h1), if_neg (show ¬ v.Kind = 15 by omega), if_pos h1]
 by_cases h2 : 21 < v.Kind
 ·rw [if_pos (show v.Kind < 1 ∨ 21 < v.Kind from .inr h2), if_neg (show ¬ v.Kind = 15 by omega), if_neg h1, if_pos h2]
 rw [if_neg (show ¬ (v.Kind < 1 ∨ 21 < v.Kind) by omega)]
 simp only [h1, h2, if_false, Qj7 N v hn (show 1 ≤ v.Kind ∧ v.Kind ≤ 21 by omega), Ql1 N v.Kind (show v.Kind ≤ 21 by omega), Option.bind_some]
 cases ho : Q6h v.Kind v.N' with
 | false => simp
 | true =>
  simp only [Bool.not_true, Bool.false_eq_true, if_false, Bool.true_eq_false, false_or]
  by_cases hi : v.Items = []
  ·simp only [hi, ne_eq, not_true_eq_false, if_false]
   by_cases h15 : v.Kind = 15
   ·have ht : G7 15 = true := rfl
    simp only [ht, h15, if_true, Bool.not_true, Bool.false_eq_true, if_false, Bool.true_eq_false, true_or, true_and, show ¬ ((15 : Int) = 20) by decide, show ¬ ((15 : Int) = 21) by decide, Qbc]
    by_cases hl : v.Text.length = 16 <;> simp [hl]
   ·by_cases h18 : v.Kind = 18
    ·have ht : G7 18 = true := rfl
     simp only [ht, h18, if_true, Bool.not_true, Bool.false_eq_true, if_false, Bool.true_eq_false, or_true, true_and, show ¬ ((18 : Int) = 20) by decide, show ¬ ((18 : Int) = 21) by decide, show ¬ ((18 : Int) = 15) by decide, Qbc]
     by_cases hl : v.Text.length = 16 <;> simp [hl]
    ·by_cases h20 : v.Kind = 20
     ·have ht : G7 20 = true := rfl
      simp only [ht, h20, if_true, Bool.not_true, Bool.false_eq_true, if_false, Bool.true_eq_false, show ¬ ((20 : Int) = 18) by decide, show ¬ ((20 : Int) = 21) by decide, show ¬ ((20 : Int) = 15) by decide, Qbc, or_self, false_and]
      cases Wi v.Text <;> split <;> simp_all
     ·by_cases h21 : v.Kind = 21
      ·have ht : G7 21 = true := rfl
       simp only [ht, h21, if_true, Bool.not_true, Bool.false_eq_true, if_false, Bool.true_eq_false, show ¬ ((21 : Int) = 18) by decide, show ¬ ((21 : Int) = 20) by decide, show ¬ ((21 : Int) = 15) by decide, Qbc, or_self, false_and]
       cases Q1l v.Text <;> split <;> simp_all
      ·simp only [h15, h18, h20, h21, if_false, or_self, false_and, Qbc]
       cases ht : G7 v.Kind with
       | false =>
        simp only [Bool.not_false, if_true]
        by_cases htt : v.Text = [] <;> simp [htt]
       | true =>
        simp only [Bool.not_true, Bool.false_eq_true, if_false, Bool.true_eq_false]
        split <;> rfl
  ·simp [hi]
end
end Go.Av
namespace Go.Av
noncomputable section
open Go.Proofs
set_option maxRecDepth 100000
def Qio (k : Nat) : Bool := (V1 k).2.2.2.2 || (V1 k).2.2.2.1 || !decide ((V1 k).2.2.1 = 1) || decide (((V1 k).1 = 80 ∧ (V1 k).2.1 = 3) ∨ ((V1 k).1 = 81 ∧ (V1 k).2.1 = 7) ∨ ((V1 k).1 = 82 ∧ (V1 k).2.1 = 5) ∨ ((V1 k).1 = 83 ∧ (V1 k).2.1 = 6) ∨ ((V1 k).1 = 84 ∧ (V1 k).2.1 = 9) ∨ ((V1 k).1 = 85 ∧ (V1 k).2.1 = 10) ∨ ((V1 k).1 = 86 ∧ (V1 k).2.1 = 2))
theorem Qga : ((List.range 40).all Qio) = true := by decide +kernel
def Qrs (k : Nat) : Bool := decide ((V1 k).2.1 = 17 → (V1 k).2.2.1 = 8)
theorem Qo7 : ((List.range 40).all Qrs) = true := by decide +kernel
theorem Qms {P : Int × Int × Int × Bool × Bool → Prop} {B : Nat → Bool} (hB : ((List.range 40).all B) = true) (hP : ∀ k, B k = true → P (V1 k)) {code : Int} (h : ofB code = true) : P (ofT code) := by
 have h1 : bsI code < 40 ∧ Uo (bsI code) = code := by simpa [ofB] using h
 have := List.all_eq_true.1 hB (bsI code) (by simpa using h1.1)
 have e : ofT code = V1 (bsI code) := by unfold ofT; rw [if_pos h]
 rw [e]; exact hP _ this
theorem Qr6 {code : Int} (h : ofB code = true) (hi : (ofS code).Items = false) (hs : (ofS code).Sized = false) (hw : (ofS code).Width = 1) :
  (code = 80 ∧ (ofS code).Kind = 3) ∨ (code = 81 ∧ (ofS code).Kind = 7) ∨ (code = 82 ∧ (ofS code).Kind = 5) ∨ (code = 83 ∧ (ofS code).Kind = 6) ∨ (code = 84 ∧ (ofS code).Kind = 9) ∨ (code = 85 ∧ (ofS code).Kind = 10) ∨ (code = 86 ∧ (ofS code).Kind = 2) := by
 have hc := (Qgc code h).code
 have := Qms (P := fun t => t.2.2.2.2 = false → t.2.2.2.1 = false → t.2.2.1 = 1 → (t.1 = 80 ∧ t.2.1 = 3) ∨ (t.1 = 81 ∧ t.2.1 = 7) ∨ (t.1 = 82 ∧ t.2.1 = 5) ∨ (t.1 = 83 ∧ t.2.1 = 6) ∨ (t.1 = 84 ∧ t.2.1 = 9) ∨ (t.1 = 85 ∧ t.2.1 = 10) ∨ (t.1 = 86 ∧ t.2.1 = 2)) Qga (fun k hk h1 h2 h3 => by
  simp only [Qio, h1, h2, h3, Bool.false_or, decide_true, Bool.not_true, decide_eq_true_eq] at hk
  exact hk) h
 have h2 := this hi hs hw
 have hc' : (ofT code).1 = code := hc
 rw [hc'] at h2
 exact h2
theorem Qqa {code : Int} (h : ofB code = true) (hk : (ofS code).Kind = 17) : (ofS code).Width = 8 :=
 Qms (P := fun t => t.2.1 = 17 → t.2.2.1 = 8) Qo7 (fun _k hk => of_decide_eq_true hk) h hk
theorem Qm3 (N : Nat) (s : List UInt8) (hl : s.length ≤ 8) : ∀ (k i : Nat), i ≤ s.length → s.length - i < k → Yc N s k (Vo (s.take i) : Nat) (i : Int) = some ((Vo s : Nat) : Int)
 | 0, i, h, h2 => by omega
 | k + 1, i, h, h2 => by
  simp only [Yc, Qd, V0]
  by_cases hi : i < s.length
  ·rw [if_pos (by omega), U3, List.getElem?_eq_getElem hi]
   simp only [Option.bind_some]
   have h3 := Jn (s.take i)
   have h4 : 256 ^ (s.take i).length ≤ 256 ^ 7 := Nat.pow_le_pow_right (by omega) (by rw [List.length_take]; omega)
   have h5 : (256 : Nat) ^ 7 = 72057594037927936 := rfl
   rw [Qbu _ _ (by omega) s[i].toNat_lt, ← Qcf s i hi, Zm _ (by omega)]
   exact_mod_cast Qm3 N s hl k (i + 1) (by omega) (by omega)
  ·rw [if_neg (by omega), List.take_of_length_le (by omega)]
theorem Q9o (N : Nat) (s : List UInt8) (hl : s.length ≤ 8) (hN : 10 < N) : Z8 N s = some ((Vo s : Nat) : Int) := by
 unfold Z8
 exact Qm3 N s hl N 0 (by omega) (by omega)
end
end Go.Av
namespace Go.Av
noncomputable section
open Go.Proofs
set_option maxRecDepth 100000
theorem Qdf (N : Nat) (k : Int) (h : (Ul k).2 = false) : ∃ b, Ql N k = some b ∧ ¬ b < 0 ∧ k ≠ 10 := by
 by_cases hk : 1 ≤ k ∧ k ≤ 21
 ·rcases kinds hk with rfl | rfl | rfl | rfl | rfl | rfl | rfl | rfl | rfl | rfl | rfl | rfl | rfl | rfl | rfl | rfl | rfl | rfl | rfl | rfl | rfl <;>
   first | (exact absurd h (by decide)) | exact ⟨_, rfl, by decide, by decide⟩
 ·refine ⟨0, ?_, by decide, by omega⟩
  unfold Ql
  simp only [Qd, Ve]
  simp only [show ¬ k = 2 by omega, show ¬ k = 3 by omega, show ¬ k = 4 by omega, show ¬ k = 5 by omega, show ¬ k = 11 by omega, show ¬ k = 13 by omega, show ¬ k = 16 by omega, show ¬ k = 6 by omega, show ¬ k = 12 by omega, show ¬ k = 14 by omega, show ¬ k = 17 by omega, show ¬ k = 10 by omega, show ¬ k = 7 by omega, show ¬ k = 8 by omega, show ¬ k = 9 by omega, if_false]
theorem Qds (N : Nat) (k : Int) (h : (Ul k).2 = true) : (∃ b, Ql N k = some b ∧ b < 0) ∨ (∃ b, Ql N k = some b ∧ ¬ b < 0 ∧ (k = 10 ∨ k = 17)) := by
 by_cases hk : 1 ≤ k ∧ k ≤ 21
 ·rcases kinds hk with rfl | rfl | rfl | rfl | rfl | rfl | rfl | rfl | rfl | rfl | rfl | rfl | rfl | rfl | rfl | rfl | rfl | rfl | rfl | rfl | rfl <;>
   first | (exact absurd h (by decide)) | exact .inl ⟨_, rfl, by decide⟩ | exact .inr ⟨_, rfl, by decide, by decide⟩
 ·exfalso
  unfold Ul at h
  simp only [show ¬ k = 2 by omega, show ¬ k = 3 by omega, show ¬ k = 4 by omega, show ¬ k = 5 by omega, show ¬ k = 11 by omega, show ¬ k = 13 by omega, show ¬ k = 16 by omega, show ¬ k = 6 by omega, show ¬ k = 12 by omega, show ¬ k = 14 by omega, show ¬ k = 17 by omega, show ¬ k = 10 by omega, show ¬ k = 7 by omega, show ¬ k = 8 by omega, show ¬ k = 9 by omega, if_false, or_self] at h
  cases h
theorem Qia (c : Qh) (n w : Nat) (hw : c.Width = w) (hh : w = 1 ∨ w = 2 ∨ w = 4 ∨ w = 8) (hn : n < 256 ^ w) (hs : (Ul c.Kind).2 = true) :
  (if decide (0 ≤ (IntKind.wrap .u64 (IntKind.wrap .i64 ((IntKind.wrap .i64 (8 * (w : Int))) - 1)))) = true then (if (n : Int) ≥ Jh .u64 1 (IntKind.wrap .u64 (IntKind.wrap .i64 ((IntKind.wrap .i64 (8 * (w : Int))) - 1))) then
   some (IntKind.wrap .u64 ((IntKind.wrap .u64 ((n : Int) - (Jh .u64 1 (IntKind.wrap .u64 (IntKind.wrap .i64 ((IntKind.wrap .i64 (8 * (w : Int))) - 1)))))) - (Jh .u64 1 (IntKind.wrap .u64 (IntKind.wrap .i64 ((IntKind.wrap .i64 (8 * (w : Int))) - 1)))))) else some (n : Int)) else none) = some (Vz c n) := by
 unfold Vz
 simp only [hs, true_and, hw]
 rcases hh with rfl | rfl | rfl | rfl
 ·rw [if_pos (by decide), show Jh .u64 1 (IntKind.wrap .u64 (IntKind.wrap .i64 ((IntKind.wrap .i64 (8 * ((1 : Nat) : Int))) - 1))) = 128 by decide]
  simp only [Q56]
  simp at hn ⊢
  split <;> simp <;> omega
 ·rw [if_pos (by decide), show Jh .u64 1 (IntKind.wrap .u64 (IntKind.wrap .i64 ((IntKind.wrap .i64 (8 * ((2 : Nat) : Int))) - 1))) = 32768 by decide]
  simp only [Q56]
  simp at hn ⊢
  split <;> simp <;> omega
 ·rw [if_pos (by decide), show Jh .u64 1 (IntKind.wrap .u64 (IntKind.wrap .i64 ((IntKind.wrap .i64 (8 * ((4 : Nat) : Int))) - 1))) = 2147483648 by decide]
  simp only [Q56]
  simp at hn ⊢
  split <;> simp <;> omega
 ·rw [if_pos (by decide), show Jh .u64 1 (IntKind.wrap .u64 (IntKind.wrap .i64 ((IntKind.wrap .i64 (8 * ((8 : Nat) : Int))) - 1))) = 9223372036854775808 by decide]
  simp only [Q56]
  simp at hn ⊢
  intro; omega
theorem Qlp (N : Nat) (c : Qh) (n w : Nat) (hw : c.Width = w) (hh : w = 1 ∨ w = 2 ∨ w = 4 ∨ w = 8) (hn : n < 256 ^ w) (h17 : c.Kind = 17 → w = 8) : W0 N (n : Int) c.Kind (w : Int) = some (Vz c n) := by
 simp only [W0, Qd, V0, Ve, Q60]
 cases hs : (Ul c.Kind).2 with
 | false =>
  obtain ⟨b, hb, hb0, h10⟩ := Qdf N c.Kind hs
  rw [hb]
  simp only [Option.bind_some]
  rw [if_neg hb0, if_neg h10]
  unfold Vz
  rw [if_neg (by simp [hs])]
 | true =>
  rcases Qds N c.Kind hs with ⟨b, hb, hb0⟩ | ⟨b, hb, hb0, hk⟩
  ·rw [hb]
   simp only [Option.bind_some]
   rw [if_pos hb0]
   exact Qia c n w hw hh hn hs
  ·rw [hb]
   simp only [Option.bind_some]
   rw [if_neg hb0]
   rcases hk with hk | hk
   ·rw [if_pos hk]
    exact Qia c n w hw hh hn hs
   ·rw [if_neg (by omega)]
    have h8 := h17 hk
    subst h8
    unfold Vz
    simp only [hs, true_and, hw]
    simp
theorem Q6m (k : Int) (v : Q0) (n : Int) : (if k = 2 then some ((⟨0, 0, [], []⟩ : Q0), (0 : Int), (5 : Int)) else if k ≠ 0 then some (⟨0, 0, [], []⟩, 0, k) else some (v, n, 0)) = some (if k = 0 then (v, n, 0) else (Jt, 0, if k = 2 then 5 else k)) := by
 by_cases h2 : k = 2
 ·subst h2; rfl
 ·rw [if_neg h2]
  by_cases h0 : k = 0
  ·rw [if_neg (show ¬ (k ≠ 0) by simp [h0]), if_pos h0]
  ·rw [if_pos (show k ≠ 0 from h0), if_neg h0, if_neg h2]; rfl
theorem Qcm (N : Nat) (code : Int) (s : List UInt8) (hs : s.length < 4611686018427387000) (h : s.length < N) (hN : 50 < N) : Wy N code s = some (Q65 code s) := by
 have hck : ∀ v : Q0, okU v.N' → v.Text.length ≤ s.length → Zh N v = some (Jg v) := fun v h1 h2 => Qdz N v h1 (by omega) (by omega)
 simp only [Wy, Q61 N code hN, Option.bind_some, Qd, V0, Q1g, Ve, Wt, Q65]
 cases hb : ofB code with
 | false => simp only [Bool.not_false, if_true, true_or]; rfl
 | true =>
  have hw := Qgc code hb
  have ht8 := Qqa hb
  have hcd := hw.code
  simp only [Bool.not_true, Bool.false_eq_true, if_false, Bool.true_eq_false, false_or]
  cases hi : (ofS code).Items with
  | true => rfl
  | false =>
   simp only [Bool.false_eq_true, if_false]
   rw [← hcd]
   rw [hcd]
   generalize hc0 : ofS code = c at *
   by_cases hl : (s.length : Int) < c.Width
   ·rw [if_pos hl, if_pos hl]; rfl
   rw [if_neg hl, if_neg hl]
   cases hw.shape hi with
   | sized w hsz hw' h12 hk hc =>
    simp only [hsz, hw', if_true, Int.toNat_natCast]
    have hlw : w ≤ s.length := by omega
    rw [if_pos (by simp), if_pos (by simp [Nat.ble_eq]; omega), List.drop_zero, Q9o N _ (by rw [List.length_take]; omega) (by omega)]
    simp only [Option.bind_some]
    have hlt := Jn (s.take w)
    have h4 : 256 ^ (s.take w).length ≤ 256 ^ 4 := Nat.pow_le_pow_right (by omega) (by rw [List.length_take]; omega)
    have h5 : (256 : Nat) ^ 4 = 4294967296 := rfl
    generalize hm : Vo (s.take w) = m at *
    have e1 : IntKind.u64.wrap (IntKind.i64.wrap ((s.length : Int) - (w : Int))) = ((s.length - w : Nat) : Int) := by
     rw [Zm _ (by omega), show ((s.length : Int) - (w : Int)) = ((s.length - w : Nat) : Int) by omega, Q6i _ (by omega)]
    rw [e1]
    by_cases h6 : s.length - w < m
    ·rw [if_pos (by omega), if_pos h6]; rfl
    ·rw [if_neg (by omega), if_neg h6]
     have e2 : IntKind.i64.wrap ((w : Int) + IntKind.i64.wrap (m : Int)) = ((w + m : Nat) : Int) := by
      rw [Zm (m : Int) (by omega), Zm _ (by omega)]; push_cast; rfl
     rw [e2]
     simp only [Int.toNat_natCast]
     rw [if_pos (by simp; omega), if_pos (by simp [Nat.ble_eq]; omega)]
     rw [show (s.take (w + m)).drop w = (s.drop w).take m by rw [List.drop_take]; congr 1; omega]
     rw [hck _ Qm0 (by simp only [List.length_take, List.length_drop]; omega)]
     simp only [Option.bind_some]
     rw [Q6m]
     unfold Qh4
     rw [show ((w + m : Nat) : Int) = (w : Int) + (m : Int) by push_cast; rfl]
   | wide hsz hw' hk hc =>
    simp only [hsz, hw', Bool.false_eq_true, if_false, if_true]
    rw [if_pos (by simp [Nat.ble_eq]; omega), List.drop_zero, hck _ Qm0 (by simp only [List.length_take]; omega)]
    simp only [Option.bind_some]
    rw [Q6m]
    rfl
   | num w hsz hw' hh ht hc hbb =>
    simp only [hsz, hw', Bool.false_eq_true, if_false, Int.toNat_natCast]
    rw [if_neg (show ¬ ((w : Int) = 16) by omega), if_neg (show ¬ ((w : Int) = 16) by omega)]
    by_cases h65 : code = 65
    ·obtain ⟨rfl, hk2⟩ := hc (by rw [hcd]; exact h65)
     rw [if_pos h65, if_pos (show c.Code = 65 by rw [hcd]; exact h65), hck _ Qqo (by simp)]
     simp only [Option.bind_some]
     rw [Q6m]
     rfl
    ·rw [if_neg h65, if_neg (show ¬ c.Code = 65 by rw [hcd]; exact h65)]
     have hlw : w ≤ s.length := by omega
     rcases hh with rfl | hh
     ·rw [if_neg (by omega), hck _ Qm0 (by simp)]
      simp only [Option.bind_some]
      have e0 : Vz c (Vo (s.take 0) : Nat) = 0 := by
       unfold Vz
       rw [if_neg (by omega)]; rfl
      rw [Q6m, e0]
      rfl
     ·have hlt := Jn (s.take w)
      rw [List.length_take, Nat.min_eq_left hlw] at hlt
      rw [if_pos (by omega), if_pos (by simp), if_pos (by simp [Nat.ble_eq]; omega), List.drop_zero, Q9o N _ (by rw [List.length_take]; omega) (by omega)]
      simp only [Option.bind_some]
      rw [Qlp N c _ w hw' hh hlt (fun hk => by have := ht8 hk; omega)]
      simp only [Option.bind_some]
      rw [hck _ (Q7m hw' hh hlt).1 (by simp)]
      simp only [Option.bind_some]
      rw [Q6m]
      rfl
end
end Go.Av
namespace Go.Av
noncomputable section
open Go.Proofs
set_option maxRecDepth 100000
end
end Go.Av
namespace Go.Av
noncomputable section
open Go.Proofs
set_option maxRecDepth 100000
def nnS (v : Q0) : Bool := (Zw 0 v).getD false
theorem Qor (N : Nat) (v : Q0) : Zw N v = some (nnS v) := by
 have h : Zw N v = Zw 0 v := rfl
 rw [h]
 unfold nnS Zw
 simp only [Qd]
 repeat' split
 all_goals rfl
mutual
def Q1n : Q0 → Q0 → Bool
 | .mk k n t is, b => decide (k = b.Kind) && (decide (t = b.Text) && (decide (is.length = b.Items.length) && ((decide (n = b.N') || (nnS ⟨k, n, t, is⟩ && nnS b)) && Q24 is b.Items)))
def Q24 : List Q0 → List Q0 → Bool
 | [], _ => true
 | x :: l, y :: m => Q1n x y && Q24 l m
 | _ :: _, [] => false
end
theorem Qcr (a b : Q0) : Q1n a b = (decide (a.Kind = b.Kind) && (decide (a.Text = b.Text) && (decide (a.Items.length = b.Items.length) && ((decide (a.N' = b.N') || (nnS a && nnS b)) && Q24 a.Items b.Items)))) := by
 cases a; simp only [Q1n]
theorem Qf1 {R : Q0 → Q0 → Option Bool} {N : Nat} {a b : Q0} (hlen : a.Items.length = b.Items.length) (hb : a.Items.length < 4611686018427387904)
  (hR : ∀ y ∈ a.Items, ∀ z, R y z = some (Q1n y z)) : ∀ (n i : Nat), i ≤ a.Items.length → a.Items.length - i < n →
  Xu R N a b n (i : Int) = some (Q24 (a.Items.drop i) (b.Items.drop i)) ∧ Xr R N a b n (i : Int) = some (Q24 (a.Items.drop i) (b.Items.drop i))
 | 0, i, _, h => by omega
 | n + 1, i, h1, h2 => by
  simp only [Xu, Xr, Qd, V0, Vc]
  by_cases hi : i < a.Items.length
  ·rw [if_pos (by omega), if_pos (by omega), U3, U3, List.getElem?_eq_getElem hi, List.getElem?_eq_getElem (show i < b.Items.length by omega)]
   simp only [Option.bind_some, hR _ (List.getElem_mem hi)]
   rw [Zm _ (by omega)]
   obtain ⟨ih1, ih2⟩ := Qf1 (N := N) hlen hb hR n (i + 1) (by omega) (by omega)
   rw [List.drop_eq_getElem_cons hi, List.drop_eq_getElem_cons (show i < b.Items.length by omega), Q24]
   cases Q1n a.Items[i] b.Items[i] with
   | true =>
    simp only [Bool.not_true, Bool.false_eq_true, if_false, Bool.true_and]
    exact ⟨by exact_mod_cast ih1, by exact_mod_cast ih2⟩
   | false => simp
  ·rw [if_neg (by omega), if_neg (by omega), List.drop_of_length_le (by omega)]
   simp [Q24]
theorem Qeo : ∀ (N : Nat) (a b : Q0), a.sz < N → a.sz < 1000000000 → Wb N a b = some (Q1n a b)
 | 0, a, b, h, _ => by have := a.sz_eq; omega
 | N + 1, a, b, h, h2 => by
  have hs := a.sz_eq
  have hl := Q0.szs_len a.Items
  rw [Qcr]
  simp only [Wb, Us, Qd, Wt, J4, Vc, Qor, Option.bind_some]
  by_cases e1 : a.Kind = b.Kind
  ·by_cases e3 : a.Text = b.Text
   ·by_cases e4 : a.Items.length = b.Items.length
    ·rw [if_neg (by simp [e1]), if_neg (by simp [e3]), if_neg (by simp [e4])]
     obtain ⟨i1, i2⟩ := Qf1 (N := N) (R := Wb N) e4 (by omega) (fun y hy z => Qeo N y z (by have := Q0.szs_mem _ y hy; omega) (by have := Q0.szs_mem _ y hy; omega)) N 0 (by omega) (by omega)
     rw [show ((0 : Nat) : Int) = 0 from rfl] at i1 i2
     rw [i1, i2, List.drop_zero, List.drop_zero]
     simp only [e1, e3, e4, decide_true, Bool.true_and]
     by_cases e2 : a.N' = b.N'
     ·simp [e2]
     ·simp only [e2, ne_eq, not_false_eq_true, if_true, decide_false, Bool.false_or]
      cases nnS a <;> cases nnS b <;> simp
    ·rw [if_neg (by simp [e1]), if_neg (by simp [e3]), if_pos (by omega)]
     simp [e4]
   ·rw [if_neg (by simp [e1]), if_pos (by simpa using e3)]
    simp [e3]
  ·rw [if_pos (by simpa using e1)]
   simp [e1]
def AL (v : Q0) (i j : Nat) : Prop := ∃ x y, v.Items[i]? = some x ∧ v.Items[j]? = some y ∧ Q1n x y = true
open Classical in
noncomputable def Q2t (v : Q0) : Int := if v.Kind ≠ 23 then 0 else if ∃ i j, 2 ≤ i ∧ i % 2 = 0 ∧ i < v.Items.length ∧ j < i ∧ j % 2 = 0 ∧ AL v i j then 16 else 0
open Classical in
theorem Qiu {N : Nat} {v : Q0} (hb : v.sz < 1000000000) (hN : v.sz < N) {k0 : Int → Option Int} {i : Nat} (hi : i < v.Items.length) (i2 : i % 2 = 0) : ∀ (n k : Nat), i - k < n → k % 2 = 0 → k ≤ i →
  W7 N k0 v (i : Int) n (k : Int) = if ∃ j, k ≤ j ∧ j < i ∧ j % 2 = 0 ∧ AL v i j then some 16 else k0 ((i + 2 : Nat) : Int)
 | 0, k, h, _, _ => by omega
 | n + 1, k, h, hk, hki => by
  have hs := v.sz_eq
  have hl := Q0.szs_len v.Items
  simp only [W7, Qd, V0, U3]
  by_cases hlt : k < i
  ·rw [if_pos (by omega), List.getElem?_eq_getElem hi, List.getElem?_eq_getElem (show k < v.Items.length by omega)]
   simp only [Option.bind_some]
   have hsz := Q0.szs_mem _ _ (List.getElem_mem hi)
   rw [Qeo N _ _ (by omega) (by omega)]
   simp only [Option.bind_some]
   cases hal : Q1n v.Items[i] v.Items[k] with
   | true =>
    rw [if_pos rfl, if_pos ⟨k, Nat.le_refl _, hlt, hk, _, _, List.getElem?_eq_getElem hi, List.getElem?_eq_getElem (by omega), hal⟩]
   | false =>
    rw [if_neg (by simp), Zm _ (by omega)]
    have := Qiu (k0 := k0) hb hN hi i2 n (k + 2) (by omega) (by omega) (by omega)
    rw [show ((k : Int) + 2) = ((k + 2 : Nat) : Int) by push_cast; rfl, this]
    by_cases hx : ∃ j, k + 2 ≤ j ∧ j < i ∧ j % 2 = 0 ∧ AL v i j
    ·rw [if_pos hx]
     obtain ⟨j, j1, j2, j3, j4⟩ := hx
     rw [if_pos ⟨j, by omega, j2, j3, j4⟩]
    ·rw [if_neg hx, if_neg]
     rintro ⟨j, j1, j2, j3, j4⟩
     by_cases hjk : j = k
     ·subst hjk
      obtain ⟨x, y, x1, y1, z1⟩ := j4
      rw [List.getElem?_eq_getElem hi] at x1
      rw [List.getElem?_eq_getElem (by omega)] at y1
      cases x1; cases y1
      rw [hal] at z1; cases z1
     ·exact hx ⟨j, by omega, j2, j3, j4⟩
  ·rw [if_neg (by omega), Zm _ (by omega), if_neg (by rintro ⟨j, j1, j2, _⟩; omega)]
   push_cast; rfl
open Classical in
theorem Qhw {N : Nat} {v : Q0} (hb : v.sz < 1000000000) (hN : v.sz < N) : ∀ (n i : Nat), v.Items.length - i < n → i % 2 = 0 → i ≤ v.Items.length + 2 →
  X0 N v n (i : Int) = some (if ∃ i' j, i ≤ i' ∧ i' % 2 = 0 ∧ i' < v.Items.length ∧ j < i' ∧ j % 2 = 0 ∧ AL v i' j then 16 else 0)
 | 0, i, h, _, _ => by omega
 | n + 1, i, h, hi, hle => by
  have hs := v.sz_eq
  have hl := Q0.szs_len v.Items
  simp only [X0, Qd, V0, Vc]
  by_cases hlt : i < v.Items.length
  ·rw [if_pos (by omega)]
   have h1 := Qiu (N := N) (k0 := X0 N v n) hb hN hlt hi N 0 (by omega) (by omega) (by omega)
   rw [show ((0 : Nat) : Int) = 0 from rfl] at h1
   rw [h1]
   by_cases hx : ∃ j, 0 ≤ j ∧ j < i ∧ j % 2 = 0 ∧ AL v i j
   ·rw [if_pos hx]
    obtain ⟨j, _, j2, j3, j4⟩ := hx
    rw [if_pos ⟨i, j, Nat.le_refl _, hi, hlt, j2, j3, j4⟩]
   ·rw [if_neg hx, Qhw hb hN n (i + 2) (by omega) (by omega) (by omega)]
    by_cases hy : ∃ i' j, i + 2 ≤ i' ∧ i' % 2 = 0 ∧ i' < v.Items.length ∧ j < i' ∧ j % 2 = 0 ∧ AL v i' j
    ·rw [if_pos hy]
     obtain ⟨i', j, a1, a2, a3⟩ := hy
     rw [if_pos ⟨i', j, by omega, a2, a3⟩]
    ·rw [if_neg hy, if_neg]
     rintro ⟨i', j, a1, a2, a3, a4, a5, a6⟩
     by_cases he : i' = i
     ·subst he; exact hx ⟨j, by omega, a4, a5, a6⟩
     ·exact hy ⟨i', j, by omega, a2, a3, a4, a5, a6⟩
  ·rw [if_neg (by omega), if_neg]
   rintro ⟨i', j, a1, a2, a3, _⟩; omega
theorem Qda (N : Nat) (v : Q0) (hb : v.sz < 1000000000) (hN : v.sz + 5 < N) : Xx N v = some (Q2t v) := by
 have hs := v.sz_eq
 have hl := Q0.szs_len v.Items
 simp only [Xx, Qd, Wt, Q2t]
 by_cases h : v.Kind ≠ 23
 ·rw [if_pos h, if_pos h]
 ·rw [if_neg h, if_neg h]
  exact Qhw hb (by omega) N 2 (by omega) (by omega) (by omega)
def Qhx (v : Q0) : Option Bool :=
 cond (Q1q .neq v.Text [])
 (some false)
 (cond (Q7 .eql v.Kind 24)
 (cond (Q7 .geq v.N' 1)
 (some (Q7 .leq v.N' 24))
 (some false))
 (cond (Q7 .neq v.N' 0)
 (some false)
 (cond (Q7 .eql v.Kind 25)
 (some (Q7 .eql ((Q0.rows v.Items).length : Int) 2))
 (cond (Q7 .eql v.Kind 23)
 (some (Q7 .eql ((((Q0.rows v.Items).length : Int) : Int).tmod 2) 0))
 (some true)))))
def Qae (v : Q0) : Bool := (Qhx v).getD false
mutual
noncomputable def Gy : Q0 → Int → Int
 | .mk k n t is, m => if k < 1 then 8 else if 25 < k then 8 else if k ≤ 21 then Jg ⟨k, n, t, is⟩ else if m = 0 then 14 else if Qae ⟨k, n, t, is⟩ = false then 2 else if 1000 < is.length then 4 else Q54 is k n (m - 1) (Q2t ⟨k, n, t, is⟩)
noncomputable def Q54 : List Q0 → Int → Int → Int → Int → Int
 | [], _, _, _, e => e
 | x :: l, k, n, m, e => if k = 24 ∧ IntKind.u64.wrap x.Kind ≠ n then 8 else if Gy x m ≠ 0 then Gy x m else Q54 l k n m e
end
theorem Qbm (v : Q0) (m : Int) : Gy v m = if v.Kind < 1 then 8 else if 25 < v.Kind then 8 else if v.Kind ≤ 21 then Jg v else if m = 0 then 14 else if Qae v = false then 2 else if 1000 < v.Items.length then 4 else Q54 v.Items v.Kind v.N' (m - 1) (Q2t v) := by
 cases v; simp only [Gy]
inductive Fine : Q0 → Prop
 | mk (v : Q0) (hn : okU v.N') (ht : v.Text.length ≤ 300000) (hi : ∀ x ∈ v.Items, Fine x) : Fine v
theorem Fine.num {v : Q0} (h : Fine v) : okU v.N' := by cases h; assumption
theorem Fine.text {v : Q0} (h : Fine v) : v.Text.length ≤ 300000 := by cases h; assumption
theorem Fine.items {v : Q0} (h : Fine v) : ∀ x ∈ v.Items, Fine x := by cases h; assumption
def Qjg (m : Int) : Bool := decide (0 ≤ m ∧ m ≤ 32)
theorem Qao (N : Nat) (m : Int) : Xm N m = some (Qjg m) := by
 unfold Xm Qjg
 simp only [Qd, Q60]
 by_cases h : 0 ≤ m
 ·rw [if_pos h]
  show some (decide (m ≤ 32)) = _
  rw [Option.some.injEq, decide_eq_decide]; omega
 ·rw [if_neg h, decide_eq_false (by omega)]
end
end Go.Av
namespace Go.Av
noncomputable section
open Go.Proofs
set_option maxRecDepth 100000
end
end Go.Av
namespace Go.Av
noncomputable section
open Go.Proofs
set_option maxRecDepth 100000
abbrev Rd := Q0 × Int × Int
def Ws (rd : List UInt8 → Rd) : Nat → List UInt8 → List Q0 → (List Q0 × List UInt8) × Int
 | 0, s, acc => ((acc, s), 0)
 | c + 1, s, acc => if (rd s).2.2 ≠ 0 then (([], []), (rd s).2.2) else Ws rd c (s.drop (rd s).2.1.toNat) (acc ++ [(rd s).1])
def Zc (data : Int → List UInt8 → Rd) : List UInt8 → Rd
 | [] => (Jt, 0, 3)
 | b :: t => if (data (b.toNat : Int) t).2.2 ≠ 0 then (Jt, 0, (data (b.toNat : Int) t).2.2) else ((data (b.toNat : Int) t).1, (data (b.toNat : Int) t).2.1 + 1, 0)
def Qg9 (rd : List UInt8 → Rd) (s : List UInt8) : Rd := if (Ws rd 2 s []).2 ≠ 0 then (Jt, 0, (Ws rd 2 s []).2) else (⟨25, 0, [], (Ws rd 2 s []).1.1⟩, ((s.length - (Ws rd 2 s []).1.2.length : Nat) : Int), 0)
noncomputable def Q8d (k num : Int) (q : (List Q0 × List UInt8) × Int) (tot : Nat) : Rd := if q.2 ≠ 0 then (Jt, 0, if q.2 = 3 then 5 else q.2) else if q.1.2 ≠ [] then (Jt, 0, 5)
 else if Q2t ⟨k, num, [], q.1.1⟩ ≠ 0 then (Jt, 0, Q2t ⟨k, num, [], q.1.1⟩) else (⟨k, num, [], q.1.1⟩, (tot : Int), 0)
theorem Q66 {k num e : Int} {tot : Nat} {x : List Q0 × List UInt8} (he : e ≠ 0) : Q8d k num (x, e) tot = (Jt, 0, if e = 3 then 5 else e) := by
 unfold Q8d
 rw [if_pos (show (x, e).2 ≠ 0 from he)]
noncomputable def Qoz (data : Int → List UInt8 → Rd) (cnt tot : Nat) (k : Int) : List UInt8 → Rd
 | [] => (Jt, 0, 5)
 | b :: t => if ofB (b.toNat : Int) = false ∨ b.toNat = 0 then (Jt, 0, 8) else Q8d k (ofS (b.toNat : Int)).Kind (Ws (data (b.toNat : Int)) cnt t []) tot
noncomputable def Qlk (data : Int → List UInt8 → Rd) (c : Qh) (w : Nat) (body : List UInt8) (tot : Nat) : Rd :=
 if body.length < w then (Jt, 0, 5)
 else if 1000 < Vo (body.take w) then (Jt, 0, 4)
 else if c.Kind = 23 ∧ Vo (body.take w) % 2 ≠ 0 then (Jt, 0, 5)
 else if c.Kind = 24 then Qoz data (Vo (body.take w)) tot c.Kind (body.drop w)
 else Q8d c.Kind 0 (Ws (Zc data) (Vo (body.take w)) (body.drop w) []) tot
noncomputable def Q3s (data : Int → List UInt8 → Rd) (c : Qh) (s : List UInt8) : Rd :=
 if s.length < c.Width.toNat then (Jt, 0, 3)
 else if s.length - c.Width.toNat < Vo (s.take c.Width.toNat) then (Jt, 0, 3)
 else Qlk data c c.Width.toNat ((s.drop c.Width.toNat).take (Vo (s.take c.Width.toNat))) (c.Width.toNat + Vo (s.take c.Width.toNat))
noncomputable def Ye : Nat → Int → List UInt8 → Rd
 | 0, code, s => if ofB code = false then (Jt, 0, 8) else if (ofS code).Items = false then Q65 code s else (Jt, 0, 14)
 | m + 1, code, s => if ofB code = false then (Jt, 0, 8) else if (ofS code).Items = false then Q65 code s
  else if (ofS code).Kind = 25 then Qg9 (Zc (Ye m)) s else if (ofS code).Sized = false then (⟨(ofS code).Kind, 0, [], []⟩, 0, 0) else Q3s (Ye m) (ofS code) s
def Qk6 (rd : List UInt8 → Rd) : Prop := ∀ s, s.length ≤ 600000 → (rd s).2.2 = 0 → 0 ≤ (rd s).2.1 ∧ (rd s).2.1 ≤ s.length ∧ (rd s).1.sz ≤ 1 + 1000 * (rd s).2.1.toNat
theorem Qg8 (b : UInt8) : IntKind.i64.wrap ((b.toNat : Nat) : Int) = ((b.toNat : Nat) : Int) := by
 have h : b.toNat < 256 := b.toNat_lt
 exact Zm _ (by omega)
theorem Q3z {text : List UInt8} {at' : Nat} (_h : at' ≤ text.length) (k : Nat) : (text.drop at').drop k = text.drop (at' + k) := by rw [List.drop_drop]
theorem Qa6 (N : Nat) (s : List UInt8) (i : Nat) (e : Int) (hi : i ≤ s.length) : Z1 N ⟨s, i, e⟩ = some (s.drop i, ⟨s, i, e⟩) := by
 simp only [Z1, Qd]
 rw [if_pos (by simp), if_pos (by simp [Nat.ble_eq]; exact hi)]
 simp
theorem Qq0 (i : Nat) (h : i < 1000000000) : IntKind.u64.wrap ((i : Int) + 1) = ((i + 1 : Nat) : Int) := by
 rw [show ((i : Int) + 1) = ((i + 1 : Nat) : Int) by push_cast; rfl]; exact J2 _ (by omega)
theorem Q72 {R : List UInt8 → Int → Option Rd} {N : Nat} {c : Qh} {most : Int} {v9 : (List UInt8) × Q1} {v11 : Int × Q1} {rd : List UInt8 → Rd} {text : List UInt8} {cnt tot : Nat}
  (hm : 1 ≤ most ∧ most ≤ 32) (ht : text.length ≤ 600000) (hc : cnt ≤ 1000) (h11 : v11.1 = (cnt : Int)) (h9 : v9.2.at' = (tot : Int)) (hN : 700000000 < N) (hR : ∀ s, s.length ≤ text.length → R s (most - 1) = some (rd s)) (hg : Qk6 rd) :
  ∀ (n i at' : Nat) (l : List Q0), i ≤ cnt → cnt - i < n → at' ≤ text.length → l.length = i → Q0.szs l ≤ i + 1000 * at' →
  X6 R N c most v9 v11 n (i : Int) text (at' : Int) 0 l = some (Q8d c.Kind 0 (Ws rd (cnt - i) (text.drop at') l) tot)
 | 0, i, at', l, _, h, _, _, _ => by omega
 | n + 1, i, at', l, hi, hn, ha, hl, hz => by
  simp only [X6, Qd, V0, Ve, Wt, h11, Qa6 N text at' 0 ha, Option.bind_some, Zm (most - 1) (show _ by omega), hR (text.drop at') (by rw [List.length_drop]; omega)]
  by_cases hic : i < cnt
  ·rw [if_pos (by omega)]
   obtain ⟨k, hk⟩ : ∃ k, cnt - i = k + 1 := ⟨cnt - i - 1, by omega⟩
   rw [hk, Ws]
   have hgd := hg (text.drop at') (by rw [List.length_drop]; omega)
   generalize hr : rd (text.drop at') = r at hgd ⊢
   obtain ⟨x, m, e⟩ := r
   simp only [] at hgd ⊢
   by_cases he : e = 0
   ·subst he
    obtain ⟨g1, g2, g3⟩ := hgd rfl
    rw [List.length_drop] at g2
    obtain ⟨mm, rfl⟩ := Int.eq_ofNat_of_zero_le g1
    rw [if_pos rfl, Q1d N text at' mm (by unfold Q74; omega) ha (by omega), if_pos (by omega)]
    simp only [Option.bind_some]
    rw [if_neg (by decide), if_neg (by simp), if_pos (by simp [Nat.ble_eq]; omega), Qq0 i (by omega), if_neg (by simp)]
    have ih := Q72 (c := c) (v9 := v9) (tot := tot) hm ht hc h11 h9 hN hR hg n (i + 1) (at' + mm) (l ++ [x]) (by omega) (by omega) (by omega) (by simp [hl]) (by
     rw [Q0.szs_app]
     simp only [Q0.szs, Int.toNat_natCast] at g3 ⊢
     omega)
    rw [ih, show cnt - (i + 1) = k by omega, Q3z ha]
    simp only [Int.toNat_natCast]
   ·rw [if_neg he]
    rw [if_pos (show e ≠ 0 from he), if_pos (show e ≠ 0 from he), Q66 he]
    by_cases h3 : e = 3
    ·rw [if_pos h3, if_pos h3]; rfl
    ·rw [if_neg h3, if_neg h3]; rfl
  ·rw [if_neg (by omega), show cnt - i = 0 by omega, Ws, Q3e N text at' 0 ha]
   simp only [Option.bind_some]
   unfold Q8d
   simp only []
   rw [if_neg (show ¬ ((0 : Int) ≠ 0) by simp)]
   by_cases hrest : text.drop at' = []
   ·have : text.length - at' = 0 := by
     have := congrArg List.length hrest
     rw [List.length_drop] at this; simpa using this
    rw [if_neg (by omega), if_neg (by simp [hrest])]
    have hsz : Q0.sz ⟨c.Kind, 0, [], l⟩ = 1 + Q0.szs l := by rw [Q0.sz_eq]
    rw [Qda N ⟨c.Kind, 0, [], l⟩ (by omega) (by omega)]
    simp only [Option.bind_some]
    split
    ·rfl
    ·simp only [Qs, Option.bind_some, h9]
   ·have : text.length - at' ≠ 0 := by
     intro h0
     exact hrest (List.drop_of_length_le (by omega))
    rw [if_pos (by omega), if_pos hrest]; rfl
theorem Q7w {R : List UInt8 → Int → Option Rd} {N : Nat} {c : Qh} {most : Int} {v9 : (List UInt8) × Q1} {v11 : Int × Q1} {rd : List UInt8 → Rd} {text : List UInt8} {cnt tot : Nat}
  (hm : 1 ≤ most ∧ most ≤ 32) (ht : text.length ≤ 600000) (hc : cnt ≤ 1000) (h11 : v11.1 = (cnt : Int)) (h9 : v9.2.at' = (tot : Int)) (hN : 700000000 < N) (hR : ∀ s, s.length ≤ text.length → R s (most - 1) = some (rd s)) (hg : Qk6 rd) :
  ∀ (n i at' : Nat) (l : List Q0), i ≤ cnt → cnt - i < n → at' ≤ text.length → l.length = i → Q0.szs l ≤ i + 1000 * at' →
  X5 R N c most v9 v11 n (i : Int) text (at' : Int) 0 l = some (Q8d c.Kind 0 (Ws rd (cnt - i) (text.drop at') l) tot)
 | 0, i, at', l, _, h, _, _, _ => by omega
 | n + 1, i, at', l, hi, hn, ha, hl, hz => by
  simp only [X5, Qd, V0, Ve, Wt, h11, Qa6 N text at' 0 ha, Option.bind_some, Zm (most - 1) (show _ by omega), hR (text.drop at') (by rw [List.length_drop]; omega)]
  by_cases hic : i < cnt
  ·rw [if_pos (by omega)]
   obtain ⟨k, hk⟩ : ∃ k, cnt - i = k + 1 := ⟨cnt - i - 1, by omega⟩
   rw [hk, Ws]
   have hgd := hg (text.drop at') (by rw [List.length_drop]; omega)
   generalize hr : rd (text.drop at') = r at hgd ⊢
   obtain ⟨x, m, e⟩ := r
   simp only [] at hgd ⊢
   by_cases he : e = 0
   ·subst he
    obtain ⟨g1, g2, g3⟩ := hgd rfl
    rw [List.length_drop] at g2
    obtain ⟨mm, rfl⟩ := Int.eq_ofNat_of_zero_le g1
    rw [if_pos rfl, Q1d N text at' mm (by unfold Q74; omega) ha (by omega), if_pos (by omega)]
    simp only [Option.bind_some]
    rw [if_neg (by decide), if_neg (by simp), if_pos (by simp [Nat.ble_eq]; omega), Qq0 i (by omega), if_neg (by simp)]
    have ih := Q7w (c := c) (v9 := v9) (tot := tot) hm ht hc h11 h9 hN hR hg n (i + 1) (at' + mm) (l ++ [x]) (by omega) (by omega) (by omega) (by simp [hl]) (by
     rw [Q0.szs_app]
     simp only [Q0.szs, Int.toNat_natCast] at g3 ⊢
     omega)
    rw [ih, show cnt - (i + 1) = k by omega, Q3z ha]
    simp only [Int.toNat_natCast]
   ·rw [if_neg he]
    rw [if_pos (show e ≠ 0 from he), if_pos (show e ≠ 0 from he), Q66 he]
    by_cases h3 : e = 3
    ·rw [if_pos h3, if_pos h3]; rfl
    ·rw [if_neg h3, if_neg h3]; rfl
  ·rw [if_neg (by omega), show cnt - i = 0 by omega, Ws, Q3e N text at' 0 ha]
   simp only [Option.bind_some]
   unfold Q8d
   simp only []
   rw [if_neg (show ¬ ((0 : Int) ≠ 0) by simp)]
   by_cases hrest : text.drop at' = []
   ·have : text.length - at' = 0 := by
     have := congrArg List.length hrest
     rw [List.length_drop] at this; simpa using this
    rw [if_neg (by omega), if_neg (by simp [hrest])]
    have hsz : Q0.sz ⟨c.Kind, 0, [], l⟩ = 1 + Q0.szs l := by rw [Q0.sz_eq]
    rw [Qda N ⟨c.Kind, 0, [], l⟩ (by omega) (by omega)]
    simp only [Option.bind_some]
    split
    ·rfl
    ·simp only [Qs, Option.bind_some, h9]
   ·have : text.length - at' ≠ 0 := by
     intro h0
     exact hrest (List.drop_of_length_le (by omega))
    rw [if_pos (by omega), if_pos hrest]; rfl
theorem Q7u {R : List UInt8 → Int → Option Rd} {R2 : Int → List UInt8 → Int → Option Rd} {N : Nat} {c : Qh} {most : Int} {v9 : (List UInt8) × Q1} {v11 : Int × Q1} {v23 : Int × Q1} {v25 : Qh × Bool} {rd : List UInt8 → Rd} {text : List UInt8} {cnt tot : Nat} {b : UInt8}
  (hm : 1 ≤ most ∧ most ≤ 32) (ht : text.length ≤ 600000) (hc : cnt ≤ 1000) (h11 : v11.1 = (cnt : Int)) (h9 : v9.2.at' = (tot : Int)) (h23 : v23.1 = (b.toNat : Int)) (h25 : 0 ≤ v25.1.Kind ∧ v25.1.Kind ≤ 25) (hN : 700000000 < N) (hR : ∀ s, s.length ≤ text.length → R2 (b.toNat : Int) s (most - 1) = some (rd s)) (hg : Qk6 rd) :
  ∀ (n i at' : Nat) (l : List Q0), i ≤ cnt → cnt - i < n → at' ≤ text.length → l.length = i → Q0.szs l ≤ i + 1000 * at' →
  Zv R R2 N c most v9 v11 v23 v25 n (i : Int) text (at' : Int) 0 l = some (Q8d c.Kind v25.1.Kind (Ws rd (cnt - i) (text.drop at') l) tot)
 | 0, i, at', l, _, h, _, _, _ => by omega
 | n + 1, i, at', l, hi, hn, ha, hl, hz => by
  have hb : b.toNat < 256 := b.toNat_lt
  have hkw : IntKind.u64.wrap v25.1.Kind = v25.1.Kind := by rw [Q56]; omega
  simp only [Zv, Qd, V0, Ve, Wt, h11, h23, Qg8, hkw, Qa6 N text at' 0 ha, Option.bind_some, Zm (most - 1) (show _ by omega), hR (text.drop at') (by rw [List.length_drop]; omega)]
  by_cases hic : i < cnt
  ·rw [if_pos (by omega), if_neg (by omega)]
   obtain ⟨k, hk⟩ : ∃ k, cnt - i = k + 1 := ⟨cnt - i - 1, by omega⟩
   rw [hk, Ws]
   have hgd := hg (text.drop at') (by rw [List.length_drop]; omega)
   generalize hr : rd (text.drop at') = r at hgd ⊢
   obtain ⟨x, m, e⟩ := r
   simp only [] at hgd ⊢
   by_cases he : e = 0
   ·subst he
    obtain ⟨g1, g2, g3⟩ := hgd rfl
    rw [List.length_drop] at g2
    obtain ⟨mm, rfl⟩ := Int.eq_ofNat_of_zero_le g1
    rw [if_pos rfl, Q1d N text at' mm (by unfold Q74; omega) ha (by omega), if_pos (by omega)]
    simp only [Option.bind_some]
    rw [if_neg (by decide), if_neg (by simp), if_pos (by simp [Nat.ble_eq]; omega), Qq0 i (by omega), if_neg (by simp)]
    have ih := Q7u (R := R) (c := c) (v9 := v9) (tot := tot) hm ht hc h11 h9 h23 h25 hN hR hg n (i + 1) (at' + mm) (l ++ [x]) (by omega) (by omega) (by omega) (by simp [hl]) (by
     rw [Q0.szs_app]
     simp only [Q0.szs, Int.toNat_natCast] at g3 ⊢
     omega)
    rw [ih, show cnt - (i + 1) = k by omega, Q3z ha]
    simp only [Int.toNat_natCast]
   ·rw [if_neg he]
    rw [if_pos (show e ≠ 0 from he), if_pos (show e ≠ 0 from he), Q66 he]
    by_cases h3 : e = 3
    ·rw [if_pos h3, if_pos h3]; rfl
    ·rw [if_neg h3, if_neg h3]; rfl
  ·rw [if_neg (by omega), show cnt - i = 0 by omega, Ws, Q3e N text at' 0 ha]
   simp only [Option.bind_some]
   unfold Q8d
   simp only []
   rw [if_neg (show ¬ ((0 : Int) ≠ 0) by simp)]
   by_cases hrest : text.drop at' = []
   ·have : text.length - at' = 0 := by
     have := congrArg List.length hrest
     rw [List.length_drop] at this; simpa using this
    rw [if_neg (by omega), if_neg (by simp [hrest])]
    have hsz : Q0.sz ⟨c.Kind, v25.1.Kind, [], l⟩ = 1 + Q0.szs l := by rw [Q0.sz_eq]
    rw [Qda N ⟨c.Kind, v25.1.Kind, [], l⟩ (by omega) (by omega)]
    simp only [Option.bind_some]
    split
    ·rfl
    ·simp only [Qs, Option.bind_some, h9]
   ·have : text.length - at' ≠ 0 := by
     intro h0
     exact hrest (List.drop_of_length_le (by omega))
    rw [if_pos (by omega), if_pos hrest]; rfl
end
end Go.Av
namespace Go.Av
noncomputable section
open Go.Proofs
set_option maxRecDepth 100000
end
end Go.Av
namespace Go.Av
noncomputable section
open Go.Proofs
set_option maxRecDepth 100000
end
end Go.Av
namespace Go.Av
noncomputable section
open Go.Proofs
set_option maxRecDepth 100000
theorem Qq7 {code : Int} {v : Q0} {k : Nat} (hf : Q4w code v = true) (hk : k < (Gk (ofS code) v).length) : Q65 code ((Gk (ofS code) v).take k) = (Jt, 0, 3) := by
 have hlen := Q6d hf
 obtain ⟨f1, f2, f3, f4⟩ := Q3c hf
 obtain ⟨c1, c2, c3, c4, c5, c6, c7⟩ := Q1i f3
 have hw := Qgc code f1
 have hi := Q27 hw (by omega)
 have hw0 : ((Gk (ofS code) v).take k).length = k := by rw [List.length_take]; omega
 unfold Q65
 rw [f1, hi, if_neg (by simp), hw0]
 split
 ·rfl
 rename_i hkw
 cases hw.shape hi with
 | sized w hs hw' h12 hk2 hc =>
  simp only [hs, hw', if_true, Int.toNat_natCast] at hlen hkw ⊢
  have hkw : w ≤ k := by omega
  have e1 : ((Gk (ofS code) v).take k).take w = Q98 v.Text.length w := by
   rw [List.take_take, Nat.min_eq_left hkw]
   unfold Gk
   rw [hs, if_pos rfl, hw', Int.toNat_natCast, List.take_left' (Q2g _ _)]
  have e3 : v.Text.length % 256 ^ w = v.Text.length := by
   apply Nat.mod_eq_of_lt
   unfold Q5a at f4
   rw [if_neg hc, hs, if_pos rfl, hw'] at f4
   rcases h12 with rfl | rfl
   ·simp at f4; omega
   ·omega
  rw [e1, Q64, e3, if_pos (by omega)]
 | wide hs hw' hk2 hc =>
  simp only [hs, hw', Bool.false_eq_true, if_false] at hlen hkw
  have : (16 : Int).toNat = 16 := rfl
  omega
 | num w hs hw' hh ht hc hbb =>
  simp only [hs, hw', Bool.false_eq_true, if_false] at hlen hkw
  omega
end
end Go.Av
namespace Go.Av
noncomputable section
open Go.Proofs
set_option maxRecDepth 100000
theorem longer {a b : Int} {v : Q0} (ha : Q4w a v = true) (hb : Q4w b v = true) (hw : (ofS a).Width ≤ (ofS b).Width) : (Gk (ofS a) v).length ≤ (Gk (ofS b) v).length := by
 rw [Q6d ha, Q6d hb]
 obtain ⟨f1, f2, f3, f4⟩ := Q3c ha
 obtain ⟨g1, g2, g3, g4⟩ := Q3c hb
 obtain ⟨c1, c2, _⟩ := Q1i f3
 have wa := Qgc a f1
 have wb := Qgc b g1
 have hs : (ofS a).Sized = true → (ofS b).Sized = true := fun hs => by
  obtain ⟨_, q1, q2, _⟩ := wa.sized (Q27 wa (by omega)) hs
  cases wb.shape (Q27 wb (by omega)) with
  | sized w hs hw' h12 hk2 hc => exact hs
  | wide hs hw' hk2 hc => omega
  | num w hs hw' hh ht hc hbb =>
   have := Q7y (k := (ofS b).Kind) (by omega)
   rw [ht] at this; cases this
 cases h : (ofS a).Sized with
 | true => rw [hs h]; simp only [if_true]; omega
 | false => simp only [Bool.false_eq_true, if_false]; omega
end
end Go.Av
