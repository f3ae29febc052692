/- The law. Part of a proof of a given statement: for every input the law returns true and the arguments read as before; no condition beyond the given row. -/
import Derived.Test.YtegedmcbfmfjeaaDoorLiftF3
import Derived.Test.YtegedmcbfmfjeaaDoorAvLift
import Derived.Test.YtegedmcbfmfjeaaDoorOks
namespace Go.Av
noncomputable section
open Go.Proofs
theorem Qw {α : Type} (b : Bool) (x y : α) : cond b x y = if b = true then x else y := by cases b <;> rfl
@[simp] theorem J4 (x y : Int) : (Qe .lss x y = true) = (x < y) := by simp [Qe]
@[simp] theorem Qcr (x y : Int) : (Qe .leq x y = true) = (x ≤ y) := by simp [Qe]
@[simp] theorem Q1m (x y : Int) : (Qe .gtr x y = true) = (x > y) := by simp [Qe]
@[simp] theorem Qd1 (x y : Int) : (Qe .geq x y = true) = (x ≥ y) := by simp [Qe]
@[simp] theorem Vw (x y : Int) : (Qe .eql x y = true) = (x = y) := by simp [Qe]
@[simp] theorem Vb (x y : Int) : (Qe .neq x y = true) = (x ≠ y) := by simp [Qe]
theorem Ya (x : Int) (h : -9223372036854775808 ≤ x ∧ x ≤ 9223372036854775807) : IntKind.wrap .i64 x = x := IntWalk.i64_in x h
mutual
def Q0.sz : Q0 → Nat
 | .mk _ _ _ is => 1 + Q0.szs is
def Q0.szs : List Q0 → Nat
 | [] => 0
 | v :: l => v.sz + Q0.szs l
end
theorem Q0.sz_eq (v : Q0) : v.sz = 1 + Q0.szs v.Items := by cases v; simp [Q0.sz]
theorem Q0.szs_len : ∀ l : List Q0, l.length ≤ Q0.szs l
 | [] => by simp
 | v :: l => by
  have h1 := Q0.szs_len l
  have h2 := Q0.sz_eq v
  simp only [Q0.szs, List.length_cons]
  omega
theorem Q0.szs_mem : ∀ (l : List Q0) (v : Q0), v ∈ l → v.sz ≤ Q0.szs l
 | [], v, h => by cases h
 | u :: l, v, h => by
  simp only [Q0.szs]
  rcases List.mem_cons.1 h with rfl | h
  ·omega
  ·have := Q0.szs_mem l v h; omega
noncomputable instance : DecidableEq Q0 := fun a b => Classical.propDecidable (a = b)
theorem Q15 (l : List Q0) : (Q0.rows l).length = l.length := by rw [Q0.rows_eq, Ub]
theorem Q1n {α : Type} (l : List α) (i : Nat) : idx l (i : Int) = l[i]? := rfl
theorem Q5w (x y : List UInt8) : (Q7c .neq x y = true) = (x ≠ y) := by simp [Q7c]
end
end Go.Av
namespace Go.Av
noncomputable section
open Go.Proofs
theorem Q0.szs_app : ∀ l m : List Q0, Q0.szs (l ++ m) = Q0.szs l + Q0.szs m
 | [], m => by simp [Q0.szs]
 | v :: l, m => by simp [Q0.szs, Q0.szs_app l m]; omega
end
end Go.Av
namespace Go.Av
noncomputable section
open Go.Proofs
def V1 (k : Int) : Int × Bool :=
 if k = 2 then (1, false) else if k = 3 then (8, false) else if k = 4 then (16, false)
 else if k = 5 ∨ k = 11 ∨ k = 13 ∨ k = 16 then (32, false) else if k = 6 ∨ k = 12 ∨ k = 14 then (64, false)
 else if k = 7 then (8, true) else if k = 8 then (16, true) else if k = 9 then (32, true) else if k = 10 ∨ k = 17 then (64, true) else (0, false)
theorem Qet (N : Nat) (k : Int) : Xi N k = some (V1 k) := by
 by_cases h2 : k = 2
 ·subst h2; rfl
 by_cases h3 : k = 3
 ·subst h3; rfl
 by_cases h4 : k = 4
 ·subst h4; rfl
 by_cases h5 : k = 5
 ·subst h5; rfl
 by_cases h11 : k = 11
 ·subst h11; rfl
 by_cases h13 : k = 13
 ·subst h13; rfl
 by_cases h16 : k = 16
 ·subst h16; rfl
 by_cases h6 : k = 6
 ·subst h6; rfl
 by_cases h12 : k = 12
 ·subst h12; rfl
 by_cases h14 : k = 14
 ·subst h14; rfl
 by_cases h7 : k = 7
 ·subst h7; rfl
 by_cases h8 : k = 8
 ·subst h8; rfl
 by_cases h9 : k = 9
 ·subst h9; rfl
 by_cases h10 : k = 10
 ·subst h10; rfl
 by_cases h17 : k = 17
 ·subst h17; rfl
 unfold Xi V1
 simp [Qw, h2, h3, h4, h5, h11, h13, h16, h6, h12, h14, h7, h8, h9, h10, h17]
def Jm (k : Int) : Bool := decide (k = 15 ∨ k = 18 ∨ k = 19 ∨ k = 20 ∨ k = 21)
theorem Qbp (N : Nat) (k : Int) : Ys N k = some (Jm k) := by
 unfold Ys Jm
 simp only [Qw, Vw]
 repeat' split
 all_goals simp_all
def Qg3 (n : Int) : Bool := decide (n ≤ 1114111 ∧ ¬ (55296 ≤ n ∧ n ≤ 57343))
theorem Q8i (N : Nat) (n : Int) (h0 : 0 ≤ n) : Yv N n = some (Qg3 n) := by
 unfold Yv Yf Qg3
 simp only [Qw, Qcr, J4]
 by_cases h : n ≤ 1114111
 ·have hw : IntKind.wrap .i32 n = n := by
   simp only [IntKind.wrap, IntKind.bits, IntKind.signed]
   simp
   omega
  rw [if_pos h, hw]
  repeat' split
  all_goals (simp; omega)
 ·rw [if_neg h]
  simp [h]
def s64 (n : Int) : Int := if n < 9223372036854775808 then n else n - 18446744073709551616
theorem Qfx (n : Int) (h0 : 0 ≤ n) (h1 : n < 18446744073709551616) : IntKind.i64.wrap n = s64 n := by
 unfold s64
 split
 ·exact IntWalk.i64_in n (by omega)
 ·simp only [IntKind.wrap, IntKind.bits, IntKind.signed]
  simp
  omega
def Q0w (n bits : Int) (signed : Bool) : Bool := if signed then decide (-(2 ^ (bits.toNat - 1)) ≤ s64 n ∧ s64 n < 2 ^ (bits.toNat - 1)) else decide (n < 2 ^ bits.toNat)
theorem Q5o {m k : Nat} (h : m ≤ k) : (2 : Int) ^ m ≤ 2 ^ k := by
 have := Nat.pow_le_pow_right (n := 2) (by omega) h
 exact_mod_cast this
theorem two_pow_pos (m : Nat) : (1 : Int) ≤ 2 ^ m := by
 have := Nat.one_le_two_pow (n := m)
 exact_mod_cast this
theorem Qhr (k : Int) (h0 : 0 ≤ k) (h1 : k ≤ 63) : IntKind.i64.wrap (-1 * 2 ^ min (IntKind.i64.wrap k).toNat IntKind.i64.bits) = -(2 ^ k.toNat) := by
 have e1 : IntKind.i64.wrap k = k := IntWalk.i64_in _ (by omega)
 have e2 : min k.toNat IntKind.i64.bits = k.toNat := by simp [IntKind.bits]; omega
 have h2 := Q5o (m := k.toNat) (k := 63) (by omega)
 have h3 := two_pow_pos k.toNat
 rw [e1, e2, IntWalk.i64_in _ (by omega)]
 omega
theorem Qa5 (N : Nat) (n bits : Int) (signed : Bool) (h0 : 0 ≤ n) (h1 : n < 18446744073709551616) (hb0 : 0 ≤ bits) (hb1 : bits ≤ 64) (hs : signed = true → 1 ≤ bits) :
  X1 N n bits signed = some (Q0w n bits signed) := by
 unfold X1
 cases signed
 ·simp only [Qw, Vw, Bool.false_eq_true, if_false, decide_eq_true_eq]
  by_cases h : bits = 64
  ·rw [if_pos h]
   subst h
   simp only [Q0w, Bool.false_eq_true, if_false, Option.some.injEq]
   exact (decide_eq_true (by simpa using h1)).symm
  ·rw [if_neg h, if_pos hb0]
   simp only [Q0w, Bool.false_eq_true, if_false, Option.some.injEq, Qe, U7]
   have e2 : min bits.toNat IntKind.u64.bits = bits.toNat := by simp [IntKind.bits]; omega
   rw [e2, Bool.eq_iff_iff]
   simp only [beq_iff_eq, decide_eq_true_eq]
   have h3 := two_pow_pos bits.toNat
   rw [Int.fdiv_eq_ediv_of_nonneg _ (by omega)]
   constructor
   ·intro h4
    have := Int.lt_ediv_add_one_mul_self n (show (0 : Int) < 2 ^ bits.toNat by omega)
    rw [h4] at this
    simpa using this
   ·intro h4
    exact Int.ediv_eq_zero_of_lt h0 h4
 ·have hs := hs rfl
  have e1 : IntKind.i64.wrap (bits - 1) = bits - 1 := IntWalk.i64_in _ (by omega)
  have e2 := Qhr (bits - 1) (by omega) (by omega)
  have e3 := Qfx n h0 h1
  have h2 := Q5o (m := (bits - 1).toNat) (k := 63) (by omega)
  have h3 := two_pow_pos (bits - 1).toNat
  have e4 : (bits - 1).toNat = bits.toNat - 1 := by omega
  rw [e1] at e2
  simp only [Qw, Qd1, if_true, decide_eq_true_eq, Q1e, e1, e2, e3]
  rw [if_pos (by omega), IntWalk.i64_in (-2 ^ (bits - 1).toNat + 1) (by omega), IntWalk.i64_in (0 - (-2 ^ (bits - 1).toNat + 1)) (by omega)]
  rw [e4] at h2 h3 ⊢
  split
  ·rename_i h
   simp only [Q0w, if_true, Option.some.injEq, Qe, decide_eq_decide]
   omega
  ·rename_i h
   simp only [Q0w, if_true, Option.some.injEq]
   exact (decide_eq_false (by omega)).symm
end
end Go.Av
namespace Go.Av
noncomputable section
def Xp (s : List UInt8) : Nat := s.foldl (fun a b => a * 256 + b.toNat) 0
theorem Q18 (s : List UInt8) (b : UInt8) : Xp (s ++ [b]) = Xp s * 256 + b.toNat := by simp [Xp]
def Wc : Nat → Nat → List UInt8
 | _, 0 => []
 | n, w + 1 => Wc (n / 256) w ++ [UInt8.ofNat (n % 256)]
theorem Vi : ∀ (w n : Nat), (Wc n w).length = w
 | 0, _ => rfl
 | w + 1, n => by simp [Wc, Vi w]
theorem Q2n : ∀ (w n : Nat), Xp (Wc n w) = n % 256 ^ w
 | 0, n => by simp [Wc, Xp, Nat.mod_one]
 | w + 1, n => by
  rw [Wc, Q18, Q2n w, Nat.pow_succ, Nat.mul_comm (256 ^ w) 256, Nat.mod_mul]
  have : (UInt8.ofNat (n % 256)).toNat = n % 256 := by simp
  rw [this]; omega
theorem Qgn {α : Type} {P : List α → Prop} (h0 : P []) (h1 : ∀ s b, P s → P (s ++ [b])) (s : List α) : P s := by
 have h : ∀ t : List α, P t.reverse := by
  intro t
  induction t with
  | nil => exact h0
  | cons b t ih => rw [List.reverse_cons]; exact h1 _ _ ih
 have := h s.reverse
 rwa [List.reverse_reverse] at this
theorem J0 : ∀ (s : List UInt8), Xp s < 256 ^ s.length := by
 refine Qgn (by simp [Xp]) (fun s b ih => ?_)
 ·rw [Q18, List.length_append, List.length_singleton, Nat.pow_succ]
  have := b.toNat_lt
  simp at this
  omega
theorem Qe3 : ∀ (s : List UInt8), Wc (Xp s) s.length = s := by
 refine Qgn rfl (fun s b ih => ?_)
 ·rw [Q18, List.length_append, List.length_singleton, Wc]
  have hb := b.toNat_lt
  simp at hb
  rw [show (Xp s * 256 + b.toNat) / 256 = Xp s by omega, ih, show (Xp s * 256 + b.toNat) % 256 = b.toNat by omega]
  simp
theorem Qbg : ∀ (w n : Nat), Wc (n % 256 ^ w) w = Wc n w
 | 0, n => rfl
 | w + 1, n => by
  have h := Qbg w (n / 256)
  rw [Wc, Wc, Nat.pow_succ, Nat.mul_comm (256 ^ w) 256, Nat.mod_mul]
  rw [show (n % 256 + 256 * (n / 256 % 256 ^ w)) / 256 = n / 256 % 256 ^ w by omega, h, show (n % 256 + 256 * (n / 256 % 256 ^ w)) % 256 = n % 256 by omega]
end
end Go.Av
namespace Go.Av
noncomputable section
open Go.Proofs
def inB (s : List UInt8) (i lo hi : Nat) : Bool := match s[i]? with
 | some b => decide (lo ≤ b.toNat ∧ b.toNat ≤ hi)
 | none => false
def cpN (s : List UInt8) : Nat := match s with
 | [] => 0
 | c :: _ => if c.toNat < 128 then 1
  else if 194 ≤ c.toNat ∧ c.toNat ≤ 223 then (if inB s 1 128 191 then 2 else 0)
  else if c.toNat = 224 then (if inB s 1 160 191 && inB s 2 128 191 then 3 else 0)
  else if c.toNat = 237 then (if inB s 1 128 159 && inB s 2 128 191 then 3 else 0)
  else if 225 ≤ c.toNat ∧ c.toNat ≤ 239 then (if inB s 1 128 191 && inB s 2 128 191 then 3 else 0)
  else if c.toNat = 240 then (if inB s 1 144 191 && inB s 2 128 191 && inB s 3 128 191 then 4 else 0)
  else if 241 ≤ c.toNat ∧ c.toNat ≤ 243 then (if inB s 1 128 191 && inB s 2 128 191 && inB s 3 128 191 then 4 else 0)
  else if c.toNat = 244 then (if inB s 1 128 143 && inB s 2 128 191 && inB s 3 128 191 then 4 else 0)
  else 0
def Q0x : Nat → List UInt8 → Bool
 | 0, s => s.isEmpty
 | n + 1, s => if s.isEmpty then true else match cpN s with
  | 0 => false
  | k + 1 => Q0x n (s.drop (k + 1))
def Yw (s : List UInt8) : Bool := Q0x s.length s
theorem Q81 : ∀ (n m : Nat) (s : List UInt8), s.length ≤ n → s.length ≤ m → Q0x n s = Q0x m s
 | 0, 0, s, _, _ => rfl
 | 0, m + 1, s, h, _ => by
  have : s = [] := List.length_eq_zero_iff.1 (by omega)
  subst this; simp [Q0x]
 | n + 1, 0, s, _, h => by
  have : s = [] := List.length_eq_zero_iff.1 (by omega)
  subst this; simp [Q0x]
 | n + 1, m + 1, s, h1, h2 => by
  simp only [Q0x]
  cases s with
  | nil => rfl
  | cons c r =>
   simp only [List.isEmpty_cons, Bool.false_eq_true, if_false]
   split
   ·rfl
   ·exact Q81 n m _ (by simp at h1 ⊢; omega) (by simp at h2 ⊢; omega)
theorem Qej : Yw [] = true := rfl
theorem Q0e (s : List UInt8) (hne : s ≠ []) (h : cpN s = 0) : Yw s = false := by
 cases s with
 | nil => exact absurd rfl hne
 | cons c r => unfold Yw; simp only [List.length_cons, Q0x, h]; rfl
theorem Ge (s : List UInt8) (k : Nat) (h : cpN s = k + 1) : Yw s = Yw (s.drop (k + 1)) := by
 cases s with
 | nil => simp [cpN] at h
 | cons c r =>
  unfold Yw
  simp only [List.length_cons, Q0x, h, List.isEmpty_cons, Bool.false_eq_true, if_false]
  exact Q81 _ _ _ (by simp) (by simp)
theorem Gx : ∀ (k : Nat) (s : List UInt8), (∀ b ∈ s.take k, b < 128) → Yw s = Yw (s.drop k)
 | 0, s, _ => by simp
 | k + 1, [], _ => by simp
 | k + 1, c :: r, h => by
  have hc : c < 128 := h c (by simp)
  have h1 : cpN (c :: r) = 1 := by simp only [cpN]; rw [if_pos (by exact hc)]
  rw [Ge (c :: r) 0 h1]
  simpa using Gx k r (fun b hb => h b (by simp [hb]))
def Q42 (s : List UInt8) : Bool := s.all fun b => decide (b.toNat < 128)
def Q7i (k n : Int) : Bool := Q0w n (V1 k).1 (V1 k).2 && (k != 16 || Qg3 n)
def Qic (k : Int) (t : List UInt8) : Int := if k = 20 then (if Yw t then 0 else 6) else if k = 21 then (if Q42 t then 0 else 6) else 0
def Uc (v : Q0) : Int :=
 if v.Kind < 1 ∨ 21 < v.Kind then 8
 else if Q7i v.Kind v.N' = false ∨ v.Items ≠ [] then 2
 else if Jm v.Kind = false then (if v.Text ≠ [] then 2 else 0)
 else if (v.Kind = 15 ∨ v.Kind = 18) ∧ v.Text.length ≠ 16 then 2
 else if 1048576 < v.Text.length then 4 else Qic v.Kind v.Text
def Q1g (c : Ye) (v : Q0) : Bool :=
 if c.Code = 65 then decide (v.N' = 1) else if c.Sized then decide (c.Width = 4 ∨ v.Text.length ≤ 255)
 else if c.Width = 0 then decide (v.N' = 0) else if c.Width = 1 then Q0w v.N' 8 (V1 c.Kind).2 else true
def Q1u (code : Int) (v : Q0) : Bool := ofB code && decide ((ofS code).Kind = v.Kind) && decide (Uc v = 0) && Q1g (ofS code) v
def Vt (c : Ye) (v : Q0) : List UInt8 :=
 if c.Sized then Wc v.Text.length c.Width.toNat ++ v.Text else if c.Width = 16 then v.Text else Wc v.N'.toNat c.Width.toNat
def Qmb (code : Int) (v : Q0) : List UInt8 × Int :=
 if Uc v ≠ 0 then ([], Uc v) else if Q1u code v = false then ([], 2) else (Vt (ofS code) v, 0)
def Ve (c : Ye) (n : Int) : Int := if (V1 c.Kind).2 = true ∧ 0 < c.Width ∧ 2 ^ (8 * c.Width.toNat - 1) ≤ n then n + (18446744073709551616 - 2 ^ (8 * c.Width.toNat)) else n
def Vk : Q0 := ⟨0, 0, [], []⟩
def Qf0 (v : Q0) (n : Int) : Q0 × Int × Int := if Uc v = 0 then (v, n, 0) else (Vk, 0, if Uc v = 2 then 5 else Uc v)
def Q93 (code : Int) (s : List UInt8) : Q0 × Int × Int :=
 if ofB code = false ∨ (ofS code).Items = true then (Vk, 0, 8)
 else if (s.length : Int) < (ofS code).Width then (Vk, 0, 3)
 else if (ofS code).Sized = true then
  if s.length - (ofS code).Width.toNat < Xp (s.take (ofS code).Width.toNat) then (Vk, 0, 3)
  else Qf0 ⟨(ofS code).Kind, 0, (s.drop (ofS code).Width.toNat).take (Xp (s.take (ofS code).Width.toNat)), []⟩ ((ofS code).Width + Xp (s.take (ofS code).Width.toNat))
 else if (ofS code).Width = 16 then Qf0 ⟨(ofS code).Kind, 0, s.take 16, []⟩ 16
 else if (ofS code).Code = 65 then Qf0 ⟨(ofS code).Kind, 1, [], []⟩ 0
 else Qf0 ⟨(ofS code).Kind, Ve (ofS code) (Xp (s.take (ofS code).Width.toNat)), [], []⟩ (ofS code).Width
end
end Go.Av
namespace Go.Av
noncomputable section
open Go.Proofs
set_option maxRecDepth 100000
def X6 : List UInt8 → Nat
 | [] => 0
 | b :: r => b.toNat + 256 * X6 r
theorem Qad : ∀ (s : List UInt8) (k : Nat), s.length ≤ k → X6 s < 256 ^ k
 | [], k, _ => Nat.pow_pos (by omega)
 | b :: r, 0, h => by simp at h
 | b :: r, k + 1, h => by
  have h1 := Qad r k (by simpa using h)
  have h2 : b.toNat < 256 := b.toNat_lt
  rw [X6, Nat.pow_succ]
  omega
theorem Q2z (a b : Nat) (n m : Nat) (ha : a < 2 ^ n) (hb : b < 2 ^ m) (hn : n + m ≤ 64) :
  IntKind.u64.wrap (((BitVec.ofInt IntKind.u64.bits (a : Int) ||| BitVec.ofInt IntKind.u64.bits (IntKind.u64.wrap ((b : Int) * 2 ^ min n IntKind.u64.bits))).toNat : Nat) : Int) = ((a + 2 ^ n * b : Nat) : Int) := by
 have h64 : IntKind.u64.bits = 64 := rfl
 have hw : ∀ z : Int, IntKind.u64.wrap z = z % 18446744073709551616 := fun z => by simp [IntKind.wrap, IntKind.bits, IntKind.signed]
 have hnn : min n 64 = n := by omega
 have hp : 2 ^ n * b < 2 ^ 64 := by
  calc 2 ^ n * b < 2 ^ n * 2 ^ m := Nat.mul_lt_mul_of_pos_left hb (Nat.two_pow_pos n)
   _ = 2 ^ (n + m) := (Nat.pow_add 2 n m).symm
   _ ≤ 2 ^ 64 := Nat.pow_le_pow_right (by omega) hn
 have ha64 : a < 2 ^ 64 := Nat.lt_of_lt_of_le ha (Nat.pow_le_pow_right (by omega) (by omega))
 have e1 : ((b : Int) * 2 ^ n) = ((2 ^ n * b : Nat) : Int) := by push_cast; exact Int.mul_comm _ _
 rw [h64, hnn, e1, hw, hw]
 have e2 : ((2 ^ n * b : Nat) : Int) % 18446744073709551616 = ((2 ^ n * b : Nat) : Int) := by
  rw [Int.emod_eq_of_lt (by omega) (by have : (2 : Nat) ^ 64 = 18446744073709551616 := rfl; omega)]
 rw [e2, BitVec.ofInt_natCast, BitVec.ofInt_natCast, BitVec.toNat_or, BitVec.toNat_ofNat, BitVec.toNat_ofNat, Nat.mod_eq_of_lt ha64, Nat.mod_eq_of_lt hp]
 have e3 : a ||| 2 ^ n * b = a + 2 ^ n * b := by
  have := Nat.shiftLeft_add_eq_or_of_lt ha b
  rw [Nat.shiftLeft_eq, Nat.mul_comm] at this
  rw [Nat.or_comm, ← this, Nat.add_comm]
 rw [e3]
 have e4 : a + 2 ^ n * b < 18446744073709551616 := by
  have hb2 : b + 1 ≤ 2 ^ m := hb
  have : 2 ^ n * (b + 1) ≤ 2 ^ n * 2 ^ m := Nat.mul_le_mul_left _ hb2
  rw [← Nat.pow_add] at this
  have h5 : 2 ^ (n + m) ≤ 2 ^ 64 := Nat.pow_le_pow_right (by omega) hn
  rw [Nat.mul_add, Nat.mul_one] at this
  have : (2 : Nat) ^ 64 = 18446744073709551616 := rfl
  omega
 rw [Int.emod_eq_of_lt (by omega) (by omega)]
theorem Qga (b : UInt8) : IntKind.u64.wrap ((b.toNat : Nat) : Int) = ((b.toNat : Nat) : Int) := by
 have := b.toNat_lt
 simp only [IntKind.wrap, IntKind.bits, IntKind.signed]
 simp
 omega
theorem Qhp (N : Nat) (b0 b1 b2 b3 b4 b5 b6 b7 : UInt8) (r : List UInt8) : Qk N (b0 :: b1 :: b2 :: b3 :: b4 :: b5 :: b6 :: b7 :: r) = some (X6 [b0, b1, b2, b3, b4, b5, b6, b7] : Nat) := by
 have l0 := b0.toNat_lt; have l1 := b1.toNat_lt; have l2 := b2.toNat_lt; have l3 := b3.toNat_lt
 have l4 := b4.toNat_lt; have l5 := b5.toNat_lt; have l6 := b6.toNat_lt; have l7 := b7.toNat_lt
 show some _ = some _
 simp only [orI, Q1e, Qga]
 have t8 : Int.toNat 8 = 8 := rfl
 have t16 : Int.toNat 16 = 16 := rfl
 have t24 : Int.toNat 24 = 24 := rfl
 have t32 : Int.toNat 32 = 32 := rfl
 have t40 : Int.toNat 40 = 40 := rfl
 have t48 : Int.toNat 48 = 48 := rfl
 have t56 : Int.toNat 56 = 56 := rfl
 rw [t8, t16, t24, t32, t40, t48, t56]
 rw [Q2z b0.toNat b1.toNat 8 8 l0 l1 (by omega)]
 rw [Q2z _ b2.toNat 16 8 (by omega) l2 (by omega)]
 rw [Q2z _ b3.toNat 24 8 (by omega) l3 (by omega)]
 rw [Q2z _ b4.toNat 32 8 (by omega) l4 (by omega)]
 rw [Q2z _ b5.toNat 40 8 (by omega) l5 (by omega)]
 rw [Q2z _ b6.toNat 48 8 (by omega) l6 (by omega)]
 rw [Q2z _ b7.toNat 56 8 (by omega) l7 (by omega)]
 simp only [X6, Option.some.injEq]
 omega
theorem Vs (N : Nat) (s : List UInt8) (h : 8 ≤ s.length) : Qk N s = some ((X6 (s.take 8) : Nat) : Int) := by
 match s, h with
 | b0 :: b1 :: b2 :: b3 :: b4 :: b5 :: b6 :: b7 :: r, _ => exact Qhp N b0 b1 b2 b3 b4 b5 b6 b7 r
theorem Q8l : ∀ (s : List UInt8) (m : Nat), m = X6 (List.replicate s.length 128) → (X6 s &&& m = 0 ↔ ∀ b ∈ s, b < 128)
 | [], m, h => by subst h; simp [X6]
 | b :: r, m, h => by
  have ih := Q8l r _ rfl
  have hb0 : ∀ n, n < 256 → (n &&& 128 = 0 ↔ n < 128) := by decide
  have hb : ∀ c : UInt8, c.toNat &&& 128 = 0 ↔ c < 128 := fun c => (hb0 c.toNat c.toNat_lt).trans Iff.rfl
  rw [List.length_cons, List.replicate_succ, X6] at h
  generalize X6 (List.replicate r.length 128) = q at h ih
  have e1 : (128 : UInt8).toNat = 128 := rfl
  rw [e1] at h
  have key : ∀ z : Nat, z = 0 ↔ z % 2 ^ 8 = 0 ∧ z / 2 ^ 8 = 0 := fun z => by omega
  have hlt := b.toNat_lt
  rw [X6, h, key, Nat.and_mod_two_pow, Nat.and_div_two_pow]
  have d1 : (b.toNat + 256 * X6 r) % 2 ^ 8 = b.toNat := by omega
  have d2 : (128 + 256 * q) % 2 ^ 8 = 128 := by omega
  have d3 : (b.toNat + 256 * X6 r) / 2 ^ 8 = X6 r := by omega
  have d4 : (128 + 256 * q) / 2 ^ 8 = q := by omega
  rw [d1, d2, d3, d4, hb, ih]
  simp
theorem V3 (n : Nat) (h : n < 18446744073709551616) : IntKind.u64.wrap (n : Int) = n := by
 simp only [IntKind.wrap, IntKind.bits, IntKind.signed]
 simp; omega
theorem Q2q (a b : Nat) (ha : a < 18446744073709551616) (hb : b < 18446744073709551616) : Q4q .u64 (a : Int) (b : Int) = ((a &&& b : Nat) : Int) := by
 have hl : a &&& b ≤ a := Nat.and_le_left
 have h64 : IntKind.u64.bits = 64 := rfl
 have p64 : (2 : Nat) ^ 64 = 18446744073709551616 := rfl
 simp only [Q4q]
 rw [h64, BitVec.ofInt_natCast, BitVec.ofInt_natCast, BitVec.toNat_and, BitVec.toNat_ofNat, BitVec.toNat_ofNat, Nat.mod_eq_of_lt (by omega), Nat.mod_eq_of_lt (by omega), V3 _ (by omega)]
theorem Q3b (a b : Nat) (ha : a < 18446744073709551616) (hb : b < 18446744073709551616) : orI .u64 (a : Int) (b : Int) = ((a ||| b : Nat) : Int) ∧ (a ||| b) < 18446744073709551616 := by
 have h64 : IntKind.u64.bits = 64 := rfl
 have p64 : (2 : Nat) ^ 64 = 18446744073709551616 := rfl
 have hl : a ||| b < 2 ^ 64 := Nat.or_lt_two_pow (by omega) (by omega)
 simp only [orI]
 rw [h64, BitVec.ofInt_natCast, BitVec.ofInt_natCast, BitVec.toNat_or, BitVec.toNat_ofNat, BitVec.toNat_ofNat, Nat.mod_eq_of_lt (by omega), Nat.mod_eq_of_lt (by omega), V3 _ (by omega)]
 exact ⟨rfl, by omega⟩
theorem Q62 (a b m : Nat) : (a ||| b) &&& m = 0 ↔ a &&& m = 0 ∧ b &&& m = 0 := by
 rw [Nat.and_or_distrib_right]
 constructor
 ·intro h
  have h1 : a &&& m ≤ (a &&& m) ||| (b &&& m) := Nat.left_le_or
  have h2 : b &&& m ≤ (a &&& m) ||| (b &&& m) := Nat.right_le_or
  omega
 ·rintro ⟨h1, h2⟩; rw [h1, h2]; rfl
theorem Gv (s : List UInt8) : X6 (s.take 8) < 18446744073709551616 := by
 have := Qad (s.take 8) 8 (by simp; omega)
 simpa using this
def M8 : Nat := 9259542123273814144
theorem Ql3 (s : List UInt8) (h : 8 ≤ s.length) : X6 (s.take 8) &&& M8 = 0 ↔ ∀ b ∈ s.take 8, b < 128 := Q8l _ _ (by rw [List.length_take, Nat.min_eq_left h]; rfl)
theorem Qhu (s : List UInt8) (h : 8 ≤ s.length) (hm : X6 (s.take 8) &&& M8 = 0) : Yw s = Yw (s.drop 8) := Gx 8 s ((Ql3 s h).1 hm)
theorem Ql0 (s : List UInt8) : (Q4q .u64 ((X6 (s.take 8) : Nat) : Int) 9259542123273814144 = 0) = (X6 (s.take 8) &&& M8 = 0) := by
 have h1 := Gv s
 rw [show (9259542123273814144 : Int) = ((M8 : Nat) : Int) from rfl, Q2q _ _ h1 (by decide)]
 apply propext; omega
theorem Ql8 (s t : List UInt8) : (Q4q .u64 (orI .u64 ((X6 (s.take 8) : Nat) : Int) ((X6 (t.take 8) : Nat) : Int)) 9259542123273814144 = 0) = (X6 (s.take 8) &&& M8 = 0 ∧ X6 (t.take 8) &&& M8 = 0) := by
 obtain ⟨h1, h2⟩ := Q3b _ _ (Gv s) (Gv t)
 rw [h1, show (9259542123273814144 : Int) = ((M8 : Nat) : Int) from rfl, Q2q _ _ h2 (by decide)]
 rw [← Q62]
 apply propext; omega
theorem Qlb (s t u v : List UInt8) : (Q4q .u64 (orI .u64 (orI .u64 ((X6 (s.take 8) : Nat) : Int) ((X6 (t.take 8) : Nat) : Int)) (orI .u64 ((X6 (u.take 8) : Nat) : Int) ((X6 (v.take 8) : Nat) : Int))) 9259542123273814144 = 0) =
  (X6 (s.take 8) &&& M8 = 0 ∧ X6 (t.take 8) &&& M8 = 0 ∧ X6 (u.take 8) &&& M8 = 0 ∧ X6 (v.take 8) &&& M8 = 0) := by
 obtain ⟨h1, h2⟩ := Q3b _ _ (Gv s) (Gv t)
 obtain ⟨h3, h4⟩ := Q3b _ _ (Gv u) (Gv v)
 obtain ⟨h5, h6⟩ := Q3b _ _ h2 h4
 rw [h1, h3, h5, show (9259542123273814144 : Int) = ((M8 : Nat) : Int) from rfl, Q2q _ _ h6 (by decide)]
 rw [show (X6 (s.take 8) &&& M8 = 0 ∧ X6 (t.take 8) &&& M8 = 0 ∧ X6 (u.take 8) &&& M8 = 0 ∧ X6 (v.take 8) &&& M8 = 0) = ((X6 (s.take 8) ||| X6 (t.take 8) ||| (X6 (u.take 8) ||| X6 (v.take 8))) &&& M8 = 0) by
  rw [Q62, Q62, Q62]; apply propext; simp only [and_assoc]]
 apply propext; omega
theorem Qjf (N : Nat) (k0 : List UInt8 → Option Bool) : ∀ (n : Nat) (s : List UInt8), s.length < n → (∀ t, t.length ≤ s.length → k0 t = some (Yw t)) → Z8 N k0 n s = some (Yw s)
 | 0, s, h, _ => by omega
 | n + 1, s, h, hk => by
  simp only [Z8, Qw, Q1m, Vw, List.take_length, Nat.ble_eq, Bool.and_eq_true, Nat.le_refl, and_true]
  by_cases hl : (s.length : Int) > 32
  ·rw [if_pos hl, Vs N s (by omega)]
   simp only [Option.bind_some]
   rw [if_pos (by omega), Vs N _ (by rw [List.length_drop]; omega)]
   simp only [Option.bind_some]
   rw [if_pos (by omega), Vs N _ (by rw [List.length_drop]; omega)]
   simp only [Option.bind_some]
   rw [if_pos (by omega), Vs N _ (by rw [List.length_drop]; omega)]
   simp only [Option.bind_some, Qlb]
   split
   ·rename_i hm
    obtain ⟨m1, m2, m3, m4⟩ := hm
    rw [if_pos (by omega), Qjf N k0 n (s.drop 32) (by rw [List.length_drop]; omega) (fun t ht => hk t (by rw [List.length_drop] at ht; omega))]
    have e1 := Qhu s (by omega) m1
    have e2 := Qhu (s.drop 8) (by rw [List.length_drop]; omega) m2
    rw [List.drop_drop] at e2
    have e3 := Qhu (s.drop 16) (by rw [List.length_drop]; omega) m3
    rw [List.drop_drop] at e3
    have e4 := Qhu (s.drop 24) (by rw [List.length_drop]; omega) m4
    rw [List.drop_drop] at e4
    rw [e1, e2, e3, e4]
   ·exact hk s (Nat.le_refl _)
  ·rw [if_neg hl]; exact hk s (Nat.le_refl _)
def Q7a (n : Nat) : Nat := Go.Pinned.utf8FirstZ.getD n 0
theorem Qil (n : Nat) (h : n < 256) : idx gtab0 (n : Int) = some (Q7a n : Int) := by
 have hl : Go.Pinned.utf8FirstZ.length = 256 := by rfl
 rw [Q1n, gtab0, List.getElem?_map, Q7a, List.getD_eq_getElem?_getD, List.getElem?_eq_getElem (by omega)]
 rfl
def Qlm (n : Nat) : Bool := (Q7a n == 241 && (decide (n < 194) || decide (244 < n))) || (Q7a n == 2 && decide (194 ≤ n) && decide (n ≤ 223)) || (Q7a n == 19 && n == 224) || (Q7a n == 3 && decide (225 ≤ n) && decide (n ≤ 239) && n != 237) || (Q7a n == 35 && n == 237) ||
  (Q7a n == 52 && n == 240) || (Q7a n == 4 && decide (241 ≤ n) && decide (n ≤ 243)) || (Q7a n == 68 && n == 244)
set_option maxRecDepth 100000 in
theorem Qhz : ((List.range 256).all fun n => decide (n < 128) || Qlm n) = true := by decide +kernel
theorem cls (n : Nat) (h : n < 256) (h2 : 128 ≤ n) : (Q7a n = 241 ∧ (n < 194 ∨ 244 < n)) ∨ (Q7a n = 2 ∧ 194 ≤ n ∧ n ≤ 223) ∨ (Q7a n = 19 ∧ n = 224) ∨ (Q7a n = 3 ∧ 225 ≤ n ∧ n ≤ 239 ∧ n ≠ 237) ∨ (Q7a n = 35 ∧ n = 237) ∨
  (Q7a n = 52 ∧ n = 240) ∨ (Q7a n = 4 ∧ 241 ≤ n ∧ n ≤ 243) ∨ (Q7a n = 68 ∧ n = 244) := by
 have := List.all_eq_true.1 Qhz n (by simpa using h)
 simp only [Bool.or_eq_true, decide_eq_true_eq] at this
 rcases this with h3 | h3
 ·omega
 ·simp only [Qlm, Bool.or_eq_true, Bool.and_eq_true, beq_iff_eq, decide_eq_true_eq, bne_iff_ne, ne_eq] at h3
  rcases h3 with ((((((h | h) | h) | h) | h) | h) | h) | h
  ·exact .inl h
  ·exact .inr (.inl ⟨h.1.1, h.1.2, h.2⟩)
  ·exact .inr (.inr (.inl h))
  ·exact .inr (.inr (.inr (.inl ⟨h.1.1.1, h.1.1.2, h.1.2, h.2⟩)))
  ·exact .inr (.inr (.inr (.inr (.inl h))))
  ·exact .inr (.inr (.inr (.inr (.inr (.inl h)))))
  ·exact .inr (.inr (.inr (.inr (.inr (.inr (.inl ⟨h.1.1, h.1.2, h.2⟩))))))
  ·exact .inr (.inr (.inr (.inr (.inr (.inr (.inr h))))))
theorem Qjn (N n : Nat) (c : UInt8) (r : List UInt8) (hc : c.toNat < 128) (_hn : r.length < n) (hN : r.length < N) (ih : ∀ t, t.length ≤ r.length → Q3 N n t = some (Yw t)) :
  Q3 N (n + 1) (c :: r) = some (Yw (c :: r)) := by
 have hstep : Yw (c :: r) = Yw r := Gx 1 (c :: r) (fun b hb => by simp at hb; subst hb; exact hc)
 rw [hstep]
 simp only [Q3, Qw, Q1m, Vw, J4, List.take_length, Nat.ble_eq, Bool.and_eq_true, Nat.le_refl, and_true]
 rw [if_pos (by simp only [List.length_cons]; omega), show idx (c :: r) 0 = some c from rfl]
 simp only [Option.bind_some]
 rw [if_pos (by omega), if_pos (by simp)]
 simp only [List.drop_one, List.tail_cons]
 by_cases h8 : (r.length : Int) > 8
 ·rw [if_pos h8, Vs N r (by omega)]
  simp only [Option.bind_some, Ql0]
  split
  ·rename_i hm
   rw [Qhu r (by omega) hm, if_pos (by omega)]
   split
   ·rename_i h16
    rw [Vs N _ (by omega)]
    simp only [Option.bind_some]
    rw [if_pos (by omega), Vs N _ (by simp only [List.length_drop] at h16 ⊢; omega)]
    simp only [Option.bind_some, Ql8]
    split
    ·rename_i hm2
     rw [if_pos (by omega), Qjf N _ N _ (by simp only [List.length_drop]; omega) (fun t ht => ih t (by simp only [List.length_drop] at ht; omega))]
     rw [Qhu (r.drop 8) (by simp only [List.length_drop] at h16 ⊢; omega) hm2.1, Qhu ((r.drop 8).drop 8) (by simp only [List.length_drop] at h16 ⊢; omega) hm2.2, List.drop_drop (l := r.drop 8)]
    ·exact ih _ (by simp only [List.length_drop]; omega)
   ·exact ih _ (by simp only [List.length_drop]; omega)
  ·exact ih _ (Nat.le_refl _)
 ·rw [if_neg h8]; exact ih _ (Nat.le_refl _)
end
end Go.Av
namespace Go.Av
noncomputable section
open Go.Proofs
set_option maxRecDepth 100000
theorem Qce {s : List UInt8} {i lo hi : Nat} {b : UInt8} (h : s[i]? = some b) (h1 : lo ≤ b.toNat) (h2 : b.toNat ≤ hi) : inB s i lo hi = true := by simp [inB, h, h1, h2]
theorem Q2g {s : List UInt8} {i lo hi : Nat} {b : UInt8} (h : s[i]? = some b) (h1 : ¬ (lo ≤ b.toNat ∧ b.toNat ≤ hi)) : inB s i lo hi = false := by simp only [inB, h, decide_eq_false h1]
theorem Qbs {s : List UInt8} {i lo hi : Nat} (h : s[i]? = none) : inB s i lo hi = false := by simp [inB, h]
theorem Qi7 {X : List UInt8 → Option Bool} (c : UInt8) (r : List UInt8) (lo hi : Int) (lo' hi' : Nat) (e1 : lo = lo') (e2 : hi = hi') (hX : ∀ t, t.length ≤ r.length → X t = some (Yw t))
  (hcp : cpN (c :: r) = if inB (c :: r) 1 lo' hi' then 2 else 0) :
  (if ((c :: r).length : Int) < 2 then some false else (idx (c :: r) 1).bind fun b => if (b.toNat : Int) < lo then some false else (idx (c :: r) 1).bind fun b2 => if hi < (b2.toNat : Int) then some false else
   if 2 ≤ (c :: r).length then X ((c :: r).drop 2) else none) = some (Yw (c :: r)) := by
 subst e1 e2
 have bad : cpN (c :: r) = 0 → some false = some (Yw (c :: r)) := fun h => by rw [Q0e _ (by simp) h]
 match r, hX, hcp, bad with
 | [], hX, hcp, bad =>
  rw [if_pos (by simp)]
  exact bad (by rw [hcp, Qbs (by simp)]; rfl)
 | d :: t, hX, hcp, bad =>
  rw [if_neg (by simp only [List.length_cons]; omega), show idx (c :: d :: t) 1 = some d from rfl]
  simp only [Option.bind_some]
  by_cases h1 : (d.toNat : Int) < lo'
  ·rw [if_pos h1]; exact bad (by rw [hcp, Q2g (b := d) rfl (by omega)]; rfl)
  rw [if_neg h1]
  by_cases h2 : (hi' : Int) < d.toNat
  ·rw [if_pos h2]; exact bad (by rw [hcp, Q2g (b := d) rfl (by omega)]; rfl)
  rw [if_neg h2, if_pos (by simp)]
  have hc : cpN (c :: d :: t) = 2 := by rw [hcp, Qce (b := d) rfl (by omega) (by omega)]; rfl
  rw [Ge _ 1 hc]
  exact hX _ (by simp)
theorem Qa8 {X : List UInt8 → Option Bool} (c : UInt8) (r : List UInt8) (lo hi : Int) (lo' hi' : Nat) (e1 : lo = lo') (e2 : hi = hi') (hX : ∀ t, t.length ≤ r.length → X t = some (Yw t))
  (hcp : cpN (c :: r) = if inB (c :: r) 1 lo' hi' && inB (c :: r) 2 128 191 then 3 else 0) :
  (if ((c :: r).length : Int) < 3 then some false else (idx (c :: r) 1).bind fun b => if (b.toNat : Int) < lo then some false else (idx (c :: r) 1).bind fun b2 => if hi < (b2.toNat : Int) then some false else
   (idx (c :: r) 2).bind fun b3 => if (b3.toNat : Int) < 128 then some false else (idx (c :: r) 2).bind fun b4 => if 191 < (b4.toNat : Int) then some false else
   if 3 ≤ (c :: r).length then X ((c :: r).drop 3) else none) = some (Yw (c :: r)) := by
 subst e1 e2
 have bad : cpN (c :: r) = 0 → some false = some (Yw (c :: r)) := fun h => by rw [Q0e _ (by simp) h]
 match r, hX, hcp, bad with
 | [], hX, hcp, bad =>
  rw [if_pos (by simp)]
  exact bad (by rw [hcp, Qbs (by simp)]; rfl)
 | [d], hX, hcp, bad =>
  rw [if_pos (by simp)]
  exact bad (by rw [hcp, Qbs (i := 2) (by simp)]; simp)
 | d :: e :: t, hX, hcp, bad =>
  rw [if_neg (by simp only [List.length_cons]; omega), show idx (c :: d :: e :: t) 1 = some d from rfl, show idx (c :: d :: e :: t) 2 = some e from rfl]
  simp only [Option.bind_some]
  by_cases h1 : (d.toNat : Int) < lo'
  ·rw [if_pos h1]; exact bad (by rw [hcp, Q2g (b := d) (i := 1) rfl (by omega)]; rfl)
  rw [if_neg h1]
  by_cases h2 : (hi' : Int) < d.toNat
  ·rw [if_pos h2]; exact bad (by rw [hcp, Q2g (b := d) (i := 1) rfl (by omega)]; rfl)
  rw [if_neg h2]
  by_cases h3 : (e.toNat : Int) < 128
  ·rw [if_pos h3]; exact bad (by rw [hcp, Q2g (b := e) (i := 2) rfl (by omega)]; simp)
  rw [if_neg h3]
  by_cases h4 : (191 : Int) < e.toNat
  ·rw [if_pos h4]; exact bad (by rw [hcp, Q2g (b := e) (i := 2) rfl (by omega)]; simp)
  rw [if_neg h4, if_pos (by simp)]
  have hc : cpN (c :: d :: e :: t) = 3 := by rw [hcp, Qce (b := d) (i := 1) rfl (by omega) (by omega), Qce (b := e) (i := 2) rfl (by omega) (by omega)]; rfl
  rw [Ge _ 2 hc]
  exact hX _ (by simp; omega)
theorem Qa9 {X : List UInt8 → Option Bool} (c : UInt8) (r : List UInt8) (lo hi : Int) (lo' hi' : Nat) (e1 : lo = lo') (e2 : hi = hi') (hX : ∀ t, t.length ≤ r.length → X t = some (Yw t))
  (hcp : cpN (c :: r) = if inB (c :: r) 1 lo' hi' && inB (c :: r) 2 128 191 && inB (c :: r) 3 128 191 then 4 else 0) :
  (if ((c :: r).length : Int) < 4 then some false else (idx (c :: r) 1).bind fun b => if (b.toNat : Int) < lo then some false else (idx (c :: r) 1).bind fun b2 => if hi < (b2.toNat : Int) then some false else
   (idx (c :: r) 2).bind fun b3 => if (b3.toNat : Int) < 128 then some false else (idx (c :: r) 2).bind fun b4 => if 191 < (b4.toNat : Int) then some false else
   (idx (c :: r) 3).bind fun b5 => if (b5.toNat : Int) < 128 then some false else (idx (c :: r) 3).bind fun b6 => if 191 < (b6.toNat : Int) then some false else
   if 4 ≤ (c :: r).length then X ((c :: r).drop 4) else none) = some (Yw (c :: r)) := by
 subst e1 e2
 have bad : cpN (c :: r) = 0 → some false = some (Yw (c :: r)) := fun h => by rw [Q0e _ (by simp) h]
 match r, hX, hcp, bad with
 | [], hX, hcp, bad =>
  rw [if_pos (by simp)]
  exact bad (by rw [hcp, Qbs (by simp)]; rfl)
 | [d], hX, hcp, bad =>
  rw [if_pos (by simp)]
  exact bad (by rw [hcp, Qbs (i := 2) (by simp)]; simp)
 | [d, e], hX, hcp, bad =>
  rw [if_pos (by simp)]
  exact bad (by rw [hcp, Qbs (i := 3) (by simp)]; simp)
 | d :: e :: f :: t, hX, hcp, bad =>
  rw [if_neg (by simp only [List.length_cons]; omega), show idx (c :: d :: e :: f :: t) 1 = some d from rfl, show idx (c :: d :: e :: f :: t) 2 = some e from rfl, show idx (c :: d :: e :: f :: t) 3 = some f from rfl]
  simp only [Option.bind_some]
  by_cases h1 : (d.toNat : Int) < lo'
  ·rw [if_pos h1]; exact bad (by rw [hcp, Q2g (b := d) (i := 1) rfl (by omega)]; rfl)
  rw [if_neg h1]
  by_cases h2 : (hi' : Int) < d.toNat
  ·rw [if_pos h2]; exact bad (by rw [hcp, Q2g (b := d) (i := 1) rfl (by omega)]; rfl)
  rw [if_neg h2]
  by_cases h3 : (e.toNat : Int) < 128
  ·rw [if_pos h3]; exact bad (by rw [hcp, Q2g (b := e) (i := 2) rfl (by omega)]; simp)
  rw [if_neg h3]
  by_cases h4 : (191 : Int) < e.toNat
  ·rw [if_pos h4]; exact bad (by rw [hcp, Q2g (b := e) (i := 2) rfl (by omega)]; simp)
  rw [if_neg h4]
  by_cases h5 : (f.toNat : Int) < 128
  ·rw [if_pos h5]; exact bad (by rw [hcp, Q2g (b := f) (i := 3) rfl (by omega)]; simp)
  rw [if_neg h5]
  by_cases h6 : (191 : Int) < f.toNat
  ·rw [if_pos h6]; exact bad (by rw [hcp, Q2g (b := f) (i := 3) rfl (by omega)]; simp)
  rw [if_neg h6, if_pos (by simp)]
  have hc : cpN (c :: d :: e :: f :: t) = 4 := by rw [hcp, Qce (b := d) (i := 1) rfl (by omega) (by omega), Qce (b := e) (i := 2) rfl (by omega) (by omega), Qce (b := f) (i := 3) rfl (by omega) (by omega)]; rfl
  rw [Ge _ 3 hc]
  exact hX _ (by simp; omega)
theorem Qj6 : ∀ (N n : Nat) (s : List UInt8), s.length < n → s.length < N → Q3 N n s = some (Yw s)
 | N, 0, s, h, _ => by omega
 | N, n + 1, [], h1, h2 => by simp [Q3, Qw, Qej]
 | N, n + 1, c :: r, h1, h2 => by
  have h1 : r.length < n := by simp at h1; omega
  have h2 : r.length < N := by simp at h2; omega
  have ih : ∀ t : List UInt8, t.length ≤ r.length → Q3 N n t = some (Yw t) := fun t ht => Qj6 N n t (by omega) (by omega)
  by_cases hc : c.toNat < 128
  ·exact Qjn N n c r hc h1 h2 ih
  have hlt := c.toNat_lt
  simp only [Q3, Qw, Q1m, Vw, J4, List.take_length, Nat.ble_eq, Bool.and_eq_true, Nat.le_refl, and_true]
  rw [if_pos (by simp only [List.length_cons]; omega), show idx (c :: r) 0 = some c from rfl]
  simp only [Option.bind_some]
  rw [if_neg (by omega), Qil _ hlt]
  simp only [Option.bind_some]
  rcases cls c.toNat hlt (by omega) with ⟨e, h⟩ | ⟨e, h⟩ | ⟨e, h⟩ | ⟨e, h⟩ | ⟨e, h⟩ | ⟨e, h⟩ | ⟨e, h⟩ | ⟨e, h⟩
  ·rw [e, show (idx gtab1 (U7 .u8 ((241 : Nat) : Int) 4)) = some (0, 0) from by decide]
   simp only [Option.bind_some]
   rw [if_neg (by decide), if_neg (by decide), if_neg (by decide), Q0e _ (by simp) (by simp only [cpN]; rw [if_neg hc, if_neg (by omega), if_neg (by omega), if_neg (by omega), if_neg (by omega), if_neg (by omega), if_neg (by omega), if_neg (by omega)])]
  ·rw [e, show (idx gtab1 (U7 .u8 ((2 : Nat) : Int) 4)) = some (128, 191) from by decide]
   simp only [Option.bind_some]
   rw [if_pos (by decide)]
   exact Qi7 c r 128 191 128 191 rfl rfl ih (by simp only [cpN]; rw [if_neg hc, if_pos h])
  ·rw [e, show (idx gtab1 (U7 .u8 ((19 : Nat) : Int) 4)) = some (160, 191) from by decide]
   simp only [Option.bind_some]
   rw [if_neg (by decide), if_pos (by decide)]
   exact Qa8 c r 160 191 160 191 rfl rfl ih (by simp only [cpN]; rw [if_neg hc, if_neg (by omega), if_pos h])
  ·rw [e, show (idx gtab1 (U7 .u8 ((3 : Nat) : Int) 4)) = some (128, 191) from by decide]
   simp only [Option.bind_some]
   rw [if_neg (by decide), if_pos (by decide)]
   exact Qa8 c r 128 191 128 191 rfl rfl ih (by simp only [cpN]; rw [if_neg hc, if_neg (by omega), if_neg (by omega), if_neg (by omega), if_pos (by omega)])
  ·rw [e, show (idx gtab1 (U7 .u8 ((35 : Nat) : Int) 4)) = some (128, 159) from by decide]
   simp only [Option.bind_some]
   rw [if_neg (by decide), if_pos (by decide)]
   exact Qa8 c r 128 159 128 159 rfl rfl ih (by simp only [cpN]; rw [if_neg hc, if_neg (by omega), if_neg (by omega), if_pos h])
  ·rw [e, show (idx gtab1 (U7 .u8 ((52 : Nat) : Int) 4)) = some (144, 191) from by decide]
   simp only [Option.bind_some]
   rw [if_neg (by decide), if_neg (by decide), if_pos (by decide)]
   exact Qa9 c r 144 191 144 191 rfl rfl ih (by simp only [cpN]; rw [if_neg hc, if_neg (by omega), if_neg (by omega), if_neg (by omega), if_neg (by omega), if_pos h])
  ·rw [e, show (idx gtab1 (U7 .u8 ((4 : Nat) : Int) 4)) = some (128, 191) from by decide]
   simp only [Option.bind_some]
   rw [if_neg (by decide), if_neg (by decide), if_pos (by decide)]
   exact Qa9 c r 128 191 128 191 rfl rfl ih (by simp only [cpN]; rw [if_neg hc, if_neg (by omega), if_neg (by omega), if_neg (by omega), if_neg (by omega), if_neg (by omega), if_pos h])
  ·rw [e, show (idx gtab1 (U7 .u8 ((68 : Nat) : Int) 4)) = some (128, 143) from by decide]
   simp only [Option.bind_some]
   rw [if_neg (by decide), if_neg (by decide), if_pos (by decide)]
   exact Qa9 c r 128 143 128 143 rfl rfl ih (by simp only [cpN]; rw [if_neg hc, if_neg (by omega), if_neg (by omega), if_neg (by omega), if_neg (by omega), if_neg (by omega), if_neg (by omega), if_pos h])
theorem Q4s (N : Nat) (s : List UInt8) (h : s.length < N) : Y3 N s = some (Yw s) := Qj6 N N s h h
end
end Go.Av
namespace Go.Av
noncomputable section
open Go.Proofs
set_option maxRecDepth 100000
theorem Q9k (s : List UInt8) (i : Nat) (hi : i < s.length) (h : s[i].toNat < 128) : Q42 (s.drop i) = Q42 (s.drop (i + 1)) := by
 rw [List.drop_eq_getElem_cons hi]
 simp only [Q42, List.all_cons, decide_eq_true h, Bool.true_and]
theorem Qd0 (N : Nat) (v : Q0) (hb : v.Text.length < 4611686018427387904) : ∀ (n i : Nat), v.Text.length - i < n → i ≤ v.Text.length →
  Yq N v n (i : Int) = some (if Q42 (v.Text.drop i) then 0 else 6)
 | 0, i, h, _ => by omega
 | n + 1, i, h, hi => by
  simp only [Yq, Qw, J4, Qd1]
  by_cases h1 : i < v.Text.length
  ·rw [if_pos (by omega), Q1n, List.getElem?_eq_getElem h1]
   simp only [Option.bind_some]
   by_cases h2 : v.Text[i].toNat < 128
   ·rw [if_neg (by omega), Ya _ (by omega), Q9k _ _ h1 h2]
    exact_mod_cast Qd0 N v hb n (i + 1) (by omega) (by omega)
   ·rw [if_pos (by omega)]
    have : Q42 (v.Text.drop i) = false := by
     rw [List.drop_eq_getElem_cons h1]
     simp only [Q42, List.all_cons, decide_eq_false h2, Bool.false_and]
    simp [this]
  ·rw [if_neg (by omega), List.drop_of_length_le (by omega)]
   rfl
theorem Qio (N : Nat) (v : Q0) (h : v.Text.length < N) (hb : v.Text.length < 4611686018427387904) : Zz N v = some (Qic v.Kind v.Text) := by
 simp only [Zz, Qw, Vw, Qic]
 split
 ·rw [Q4s N _ h]
  simp only [Option.bind_some]
  cases Yw v.Text <;> rfl
 ·split
  ·have := Qd0 N v hb N 0 (by omega) (by omega)
   simpa using this
  ·rfl
theorem Qi2 (v : Q0) : (((Q0.rows v.Items).length : Int) ≠ 0) = (v.Items ≠ []) := by
 rw [Q15]
 apply propext
 cases v.Items <;> simp; omega
theorem Qe0 (k : Int) : 0 ≤ (V1 k).1 ∧ (V1 k).1 ≤ 64 ∧ ((V1 k).2 = true → 1 ≤ (V1 k).1) := by
 unfold V1
 repeat' split
 all_goals simp
def okU (n : Int) : Prop := 0 ≤ n ∧ n < 18446744073709551616
theorem Q2s (N : Nat) (v : Q0) (hn : okU v.N') (h : v.Text.length < N) (hb : v.Text.length < 4611686018427387904) : Yd N v = some (Uc v) := by
 obtain ⟨b1, b2, b3⟩ := Qe0 v.Kind
 simp only [Yd, Qw, Vw, J4, Q1m, Vb, Q5w, Qet, Option.bind_some, Qa5 N _ _ _ hn.1 hn.2 b1 b2 b3, Q8i N _ hn.1, Qbp, Qio N v h hb, Qi2]
 unfold Uc
 by_cases h1 : v.Kind < 1
 ·rw [if_pos h1, if_pos (.inl h1)]
 rw [if_neg h1]
 by_cases h2 : v.Kind > 21
 ·rw [if_pos h2, if_pos (.inr h2)]
 rw [if_neg h2, if_neg (show ¬ (v.Kind < 1 ∨ 21 < v.Kind) by omega)]
 unfold Q7i
 generalize Q0w v.N' (V1 v.Kind).1 (V1 v.Kind).2 = fb
 cases fb
 ·simp
 simp only [Bool.not_true, Bool.false_eq_true, if_false, Bool.true_and]
 by_cases h16 : v.Kind = 16
 ·rw [if_pos h16]
  have e1 : (v.Kind != 16) = false := by simp [h16]
  have e2 : Jm v.Kind = false := by rw [h16]; rfl
  rw [e1, e2]
  simp only [Bool.false_or, Bool.not_false, if_true]
  cases Qg3 v.N' with
  | false => simp
  | true =>
   simp only [Bool.not_true, Bool.false_eq_true, if_false]
   by_cases hi : v.Items = []
   ·simp only [hi, ne_eq, not_true_eq_false, if_false]
    simp only [Bool.true_eq_false, or_self, if_false]
    by_cases ht : v.Text = [] <;> simp [ht]
   ·simp [hi]
 ·rw [if_neg h16]
  have e1 : (v.Kind != 16) = true := by simp [h16]
  rw [e1]
  simp only [Bool.true_or, Bool.true_eq_false, false_or]
  have e3 : ((v.Text.length : Int) ≠ 16) = (v.Text.length ≠ 16) := by apply propext; omega
  have e4 : ((v.Text.length : Int) > 1048576) = (1048576 < v.Text.length) := by apply propext; omega
  simp only [e3, e4]
  by_cases hi : v.Items = []
  ·simp only [hi, ne_eq, not_true_eq_false, if_false]
   cases Jm v.Kind with
   | false => by_cases ht : v.Text = [] <;> simp [ht]
   | true =>
    simp only [Bool.not_true, Bool.false_eq_true, if_false, Bool.true_eq_false]
    by_cases h15 : v.Kind = 15
    ·simp only [h15, if_true, true_or, true_and]
     by_cases hl : v.Text.length = 16 <;> simp [hl]
    ·by_cases h18 : v.Kind = 18
     ·simp only [h18, if_true, or_true, true_and]
      by_cases hl : v.Text.length = 16 <;> simp [hl]
     ·simp only [h15, h18, if_false, or_self, false_and]
      split <;> rfl
  ·simp [hi]
end
end Go.Av
namespace Go.Av
noncomputable section
open Go.Proofs
set_option maxRecDepth 100000
theorem Q5r : ∀ (w n : Nat), Wc n (w + 1) = UInt8.ofNat (n / 256 ^ w % 256) :: Wc n w
 | 0, n => by simp [Wc]
 | w + 1, n => by
  rw [Wc, Q5r w (n / 256), Wc, List.cons_append, Nat.div_div_eq_div_mul, Nat.pow_succ, Nat.mul_comm 256]
theorem Qku (x : Int) : IntKind.u8.wrap x = x % 256 := by simp [IntKind.wrap, IntKind.bits, IntKind.signed]
theorem Q7q (x : Int) : IntKind.u64.wrap x = x % 18446744073709551616 := by simp [IntKind.wrap, IntKind.bits, IntKind.signed]
theorem Qdq (a b : Nat) (ha : a < 72057594037927936) (hb : b < 256) : orI .u64 (Q1e .u64 (a : Int) 8) (IntKind.u64.wrap (b : Int)) = ((a * 256 + b : Nat) : Int) := by
 have e1 : Q1e .u64 (a : Int) 8 = ((a * 256 : Nat) : Int) := by
  simp only [Q1e]
  have : min (Int.toNat 8) IntKind.u64.bits = 8 := rfl
  rw [this, show ((a : Int) * 2 ^ 8) = ((a * 256 : Nat) : Int) by push_cast; rfl, V3 _ (by omega)]
 rw [e1, V3 b (by omega), (Q3b _ _ (by omega) (by omega)).1]
 have := Nat.shiftLeft_add_eq_or_of_lt (show b < 2 ^ 8 by omega) a
 rw [Nat.shiftLeft_eq] at this
 rw [← this]
theorem Qcq (s : List UInt8) (i : Nat) (hi : i < s.length) : Xp (s.take (i + 1)) = Xp (s.take i) * 256 + s[i].toNat := by
 rw [List.take_succ_eq_append_getElem hi, Q18]
theorem Qe1 (N : Nat) (s : List UInt8) (hl : s.length ≤ 8) : ∀ (k i : Nat), i ≤ s.length → s.length - i < k → Xh N s k (Xp (s.take i) : Nat) (i : Int) = some ((Xp s : Nat) : Int)
 | 0, i, h, h2 => by omega
 | k + 1, i, h, h2 => by
  simp only [Xh, Qw, J4]
  by_cases hi : i < s.length
  ·rw [if_pos (by omega), Q1n, List.getElem?_eq_getElem hi]
   simp only [Option.bind_some]
   have h3 := J0 (s.take i)
   have h4 : 256 ^ (s.take i).length ≤ 256 ^ 7 := Nat.pow_le_pow_right (by omega) (by rw [List.length_take]; omega)
   have h5 : (256 : Nat) ^ 7 = 72057594037927936 := rfl
   rw [Qdq _ _ (by omega) s[i].toNat_lt, ← Qcq s i hi, Ya _ (by omega)]
   exact_mod_cast Qe1 N s hl k (i + 1) (by omega) (by omega)
  ·rw [if_neg (by omega), List.take_of_length_le (by omega)]
theorem Q3s (N : Nat) (s : List UInt8) (hl : s.length ≤ 8) (hN : 10 < N) : Wg N s = some ((Xp s : Nat) : Int) := by
 simp only [Wg, Qw, Q1m]
 rw [if_neg (by omega)]
 exact Qe1 N s hl N 0 (by omega) (by omega)
abbrev Q4o (s : List UInt8) : Prop := s.length < 4611686018427387904
theorem J2 (N : Nat) (s : List UInt8) (i n : Nat) (hs : Q4o s) (hi : i ≤ s.length) (hn : n < 4611686018427387904) : Qg N ⟨s, i, 0⟩ (n : Int) =
  some (if n ≤ s.length - i then ((s.drop i).take n, ⟨s, ((i + n : Nat) : Int), 0⟩) else ([], ⟨s, i, 3⟩)) := by
 unfold Q4o at hs
 simp only [Qg, Yk, Xl, Qw, Option.bind_some, Qd1, show Qe .eql (0 : Int) 0 = true from rfl, Bool.not_true, Bool.false_eq_true, if_false]
 rw [if_pos (by omega), Ya _ (by omega)]
 simp only [Option.bind_some, Bool.not_eq_true']
 by_cases h : n ≤ s.length - i
 ·have e1 : Qe .leq (n : Int) ((s.length : Int) - (i : Int)) = true := by rw [Qcr]; omega
  rw [e1, if_pos h, Ya _ (by omega)]
  simp only [Bool.true_eq_false, if_false]
  have e2 : ((i : Int) + (n : Int)) = ((i + n : Nat) : Int) := by push_cast; rfl
  rw [e2, if_pos (by simp), if_pos (by simp; omega), if_pos (by simp [Nat.ble_eq]; omega)]
  have e3 : ((i + n : Nat) : Int).toNat = i + n := rfl
  have e4 : (i : Int).toNat = i := rfl
  rw [e3, e4]
  rw [show (s.take (i + n)).drop i = (s.drop i).take n by rw [List.drop_take]; congr 1; omega]
 ·have e1 : Qe .leq (n : Int) ((s.length : Int) - (i : Int)) = false := by
   have : ¬ (Qe .leq (n : Int) ((s.length : Int) - (i : Int)) = true) := by rw [Qcr]; omega
   exact Bool.eq_false_iff.2 this
  rw [e1, if_neg h]
  simp
theorem Gu (N : Nat) (s : List UInt8) (i : Nat) (e : Int) (hi : i ≤ s.length) : Qt N ⟨s, i, e⟩ = some (((s.length - i : Nat) : Int), ⟨s, i, e⟩) := by
 simp only [Qt, Qs, Qw]
 rw [if_pos (by simp), if_pos (by simp [Nat.ble_eq]; exact hi)]
 simp
theorem Q11 (N : Nat) (s : List UInt8) (w : Nat) (hs : Q4o s) (hw : w ≤ 8) (hN : 10 < N) : Qn N ⟨s, 0, 0⟩ (w : Int) =
  some (if w ≤ s.length then (((Xp (s.take w) : Nat) : Int), ⟨s, (w : Int), 0⟩) else (0, ⟨s, 0, 3⟩)) := by
 simp only [Qn]
 have := J2 N s 0 w hs (by omega) (by omega)
 rw [show ((0 : Nat) : Int) = 0 from rfl] at this
 rw [this]
 simp only [Option.bind_some, Nat.sub_zero, List.drop_zero, Nat.zero_add]
 by_cases h : w ≤ s.length
 ·rw [if_pos h, if_pos h]
  simp only
  rw [Q3s N _ (by rw [List.length_take]; omega) hN]
  rfl
 ·rw [if_neg h, if_neg h]
  dsimp only
  rw [Q3s N _ (by simp) hN]
  rfl
end
end Go.Av
namespace Go.Av
noncomputable section
open Go.Proofs
set_option maxRecDepth 100000
def Qk7 (code : Int) (t : Int × Int × Int × Bool × Bool) : Bool :=
 decide (t.1 = code) && decide (1 ≤ t.2.1 ∧ t.2.1 ≤ 25) && (t.2.2.2.2 == decide (22 ≤ t.2.1)) &&
 (t.2.2.2.2 || (if t.2.2.2.1 then decide ((t.2.2.1 = 1 ∨ t.2.2.1 = 4) ∧ 19 ≤ t.2.1 ∧ t.2.1 ≤ 21 ∧ t.1 ≠ 65)
  else if t.2.2.1 = 16 then decide ((t.2.1 = 15 ∨ t.2.1 = 18) ∧ t.1 ≠ 65)
  else decide (Jm t.2.1 = false) && decide (t.2.2.1 = 0 ∨ t.2.2.1 = 1 ∨ t.2.2.1 = 2 ∨ t.2.2.1 = 4 ∨ t.2.2.1 = 8) &&
   decide (t.1 = 65 → t.2.2.1 = 0 ∧ t.2.1 = 2) && decide (t.2.2.1 = 1 → (V1 t.2.1).1 ≤ 8 → (V1 t.2.1).2 = false ∨ (V1 t.2.1).1 = 8) && decide (2 ≤ t.2.2.1 → (V1 t.2.1).1 = 8 * t.2.2.1)))
theorem Qd8 : ((List.range 40).all fun k => Qk7 (Ww k) (X3 k)) = true := by decide +kernel
structure Well (code : Int) (c : Ye) : Prop where
 code : c.Code = code
 kind : 1 ≤ c.Kind ∧ c.Kind ≤ 25
 items : c.Items = decide (22 ≤ c.Kind)
 sized : c.Items = false → c.Sized = true → (c.Width = 1 ∨ c.Width = 4) ∧ 19 ≤ c.Kind ∧ c.Kind ≤ 21 ∧ c.Code ≠ 65
 wide : c.Items = false → c.Sized = false → c.Width = 16 → (c.Kind = 15 ∨ c.Kind = 18) ∧ c.Code ≠ 65
 num : c.Items = false → c.Sized = false → c.Width ≠ 16 → Jm c.Kind = false ∧ (c.Width = 0 ∨ c.Width = 1 ∨ c.Width = 2 ∨ c.Width = 4 ∨ c.Width = 8) ∧ (c.Code = 65 → c.Width = 0 ∧ c.Kind = 2) ∧ (2 ≤ c.Width → (V1 c.Kind).1 = 8 * c.Width)
theorem Qg8 (code : Int) (h : ofB code = true) : Well code (ofS code) := by
 have h1 : bsI code < 40 ∧ Ww (bsI code) = code := by simpa [ofB] using h
 have hw := List.all_eq_true.1 Qd8 (bsI code) (by simpa using h1.1)
 rw [h1.2] at hw
 have e : ofT code = X3 (bsI code) := by unfold ofT; rw [if_pos h]
 rw [← e] at hw
 have es : ofS code = ⟨(ofT code).1, (ofT code).2.1, (ofT code).2.2.1, (ofT code).2.2.2.1, (ofT code).2.2.2.2⟩ := rfl
 rw [es]
 generalize ofT code = t at hw
 obtain ⟨c, k, w, s, i⟩ := t
 simp only [Qk7, Bool.and_eq_true, decide_eq_true_eq, beq_iff_eq] at hw
 obtain ⟨⟨⟨h1, h2⟩, h3⟩, h4⟩ := hw
 refine ⟨h1, h2, h3, ?_, ?_, ?_⟩ <;> intro hi hs <;> simp only at hi hs
 ·rw [hi, hs] at h4
  simpa using h4
 ·intro hw16
  simp only at hw16
  rw [hi, hs, if_pos hw16] at h4
  simpa using h4
 ·intro hw16
  simp only at hw16
  rw [hi, hs, if_neg hw16] at h4
  simp only [Bool.false_or, Bool.and_eq_true, decide_eq_true_eq, Bool.false_eq_true, if_false] at h4
  exact ⟨h4.1.1.1.1, h4.1.1.1.2, h4.1.1.2, h4.2⟩
theorem Gb {v : Q0} (h : Uc v = 0) : 1 ≤ v.Kind ∧ v.Kind ≤ 21 ∧ Q7i v.Kind v.N' = true ∧ v.Items = [] ∧ (Jm v.Kind = false → v.Text = []) ∧ (v.Kind = 15 ∨ v.Kind = 18 → v.Text.length = 16) ∧ v.Text.length ≤ 1048576 := by
 unfold Uc at h
 split at h
 ·omega
 split at h
 ·omega
 rename_i h1 h2
 have hi : v.Items = [] := by
  apply Classical.byContradiction
  intro hn; exact h2 (.inr hn)
 have ho : Q7i v.Kind v.N' = true := by
  cases ho : Q7i v.Kind v.N' with
  | true => rfl
  | false => exact absurd (.inl ho) h2
 split at h
 ·split at h
  ·omega
  ·rename_i h3 h4
   have ht : v.Text = [] := by
    apply Classical.byContradiction
    intro hn; exact h4 hn
   refine ⟨by omega, by omega, ho, hi, fun _ => ht, fun hk => ?_, by rw [ht]; simp⟩
   rcases hk with hk | hk <;> rw [hk] at h3 <;> cases h3
 ·split at h
  ·omega
  split at h
  ·omega
  rename_i h3 h4 h5
  exact ⟨by omega, by omega, ho, hi, fun ht => absurd ht h3, fun hk => by
   apply Classical.byContradiction
   intro hn; exact h4 ⟨hk, hn⟩, by omega⟩
theorem Q7h {k n : Int} (h : Jm k = true) (hn : Q7i k n = true) (h0 : 0 ≤ n) : n = 0 := by
 unfold Jm at h
 simp only [decide_eq_true_eq] at h
 have hb : V1 k = (0, false) := by
  rcases h with rfl | rfl | rfl | rfl | rfl <;> rfl
 simp only [Q7i, Bool.and_eq_true, hb, Q0w, Bool.false_eq_true, if_false, decide_eq_true_eq] at hn
 have := hn.1
 simp at this
 omega
theorem Qd4 {c : Ye} {n : Int} {w : Nat} (hw : c.Width = w) (h148 : w = 1 ∨ w = 2 ∨ w = 4 ∨ w = 8) (hn : okU n) (hf : Q0w n (8 * w) (V1 c.Kind).2 = true) : Ve c ((n.toNat % 256 ^ w : Nat) : Int) = n := by
 obtain ⟨h0, h1⟩ := hn
 unfold Ve
 unfold Q0w s64 at hf
 cases hs : (V1 c.Kind).2
 ·rw [hs] at hf
  simp only [Bool.false_eq_true, if_false, decide_eq_true_eq] at hf
  simp only [Bool.false_eq_true, false_and, if_false]
  rcases h148 with rfl | rfl | rfl | rfl <;> simp at hf ⊢ <;> omega
 ·rw [hs] at hf
  simp only [if_true, decide_eq_true_eq] at hf
  simp only [true_and, hw]
  rcases h148 with rfl | rfl | rfl | rfl <;> simp at hf ⊢ <;> split at hf <;> (try split) <;> omega
theorem Q7w {c : Ye} {n w : Nat} (hw : c.Width = w) (h148 : w = 1 ∨ w = 2 ∨ w = 4 ∨ w = 8) (hn : n < 256 ^ w) : okU (Ve c n) ∧ (Ve c n).toNat % 256 ^ w = n ∧ Q0w (Ve c n) (8 * w) (V1 c.Kind).2 = true := by
 unfold Ve okU Q0w s64
 cases hs : (V1 c.Kind).2
 ·simp only [Bool.false_eq_true, false_and, if_false]
  rcases h148 with rfl | rfl | rfl | rfl <;> simp at hn ⊢ <;> omega
 ·simp only [true_and, hw, if_true]
  rcases h148 with rfl | rfl | rfl | rfl <;> simp at hn ⊢ <;> split <;> refine ⟨by omega, by omega, ?_⟩ <;> (try split) <;> omega
theorem Qal (N : Nat) (c : Ye) (n w : Nat) (hw : c.Width = w) (hww : w = 0 ∨ w = 1 ∨ w = 2 ∨ w = 4 ∨ w = 8) (hn : n < 256 ^ w) : Xv N c (n : Int) = some (Ve c n) := by
 simp only [Xv, Qet, Option.bind_some, Qw, Q1m, Ve]
 cases hs : (V1 c.Kind).2
 ·simp
 ·simp only [if_true, true_and, hw]
  rcases hww with rfl | hww
  ·simp
  rcases hww with rfl | rfl | rfl | rfl
  ·rw [if_pos (by omega), Ya (8 * ((1 : Nat) : Int)) (by omega), Ya _ (by omega), if_pos (by decide)]
   simp only [Nat.pow_one] at hn
   simp only [U7, Q1e, Q7q]
   simp only [Option.some.injEq]
   rw [show min (Int.toNat (64 - 8 * ((1 : Nat) : Int))) IntKind.u64.bits = 56 from rfl, show min (Int.toNat (64 - 8 * ((1 : Nat) : Int))) IntKind.i64.bits = 56 from rfl]
   simp only [IntKind.wrap, IntKind.bits, IntKind.signed]
   rw [Int.fdiv_eq_ediv_of_nonneg _ (by decide)]
   simp
   split <;> split <;> omega
  ·rw [if_pos (by omega), Ya (8 * ((2 : Nat) : Int)) (by omega), Ya _ (by omega), if_pos (by decide)]
   simp at hn
   simp only [U7, Q1e, Q7q]
   simp only [Option.some.injEq]
   rw [show min (Int.toNat (64 - 8 * ((2 : Nat) : Int))) IntKind.u64.bits = 48 from rfl, show min (Int.toNat (64 - 8 * ((2 : Nat) : Int))) IntKind.i64.bits = 48 from rfl]
   simp only [IntKind.wrap, IntKind.bits, IntKind.signed]
   rw [Int.fdiv_eq_ediv_of_nonneg _ (by decide)]
   simp
   split <;> split <;> omega
  ·rw [if_pos (by omega), Ya (8 * ((4 : Nat) : Int)) (by omega), Ya _ (by omega), if_pos (by decide)]
   simp at hn
   simp only [U7, Q1e, Q7q]
   simp only [Option.some.injEq]
   rw [show min (Int.toNat (64 - 8 * ((4 : Nat) : Int))) IntKind.u64.bits = 32 from rfl, show min (Int.toNat (64 - 8 * ((4 : Nat) : Int))) IntKind.i64.bits = 32 from rfl]
   simp only [IntKind.wrap, IntKind.bits, IntKind.signed]
   rw [Int.fdiv_eq_ediv_of_nonneg _ (by decide)]
   simp
   split <;> split <;> omega
  ·rw [if_pos (by omega), Ya (8 * ((8 : Nat) : Int)) (by omega), Ya _ (by omega), if_pos (by decide)]
   simp at hn
   simp only [U7, Q1e, Q7q]
   simp only [Option.some.injEq]
   rw [show min (Int.toNat (64 - 8 * ((8 : Nat) : Int))) IntKind.u64.bits = 0 from rfl, show min (Int.toNat (64 - 8 * ((8 : Nat) : Int))) IntKind.i64.bits = 0 from rfl]
   simp only [IntKind.wrap, IntKind.bits, IntKind.signed]
   rw [Int.fdiv_eq_ediv_of_nonneg _ (by decide)]
   simp
   split <;> omega
end
end Go.Av
namespace Go.Av
noncomputable section
open Go.Proofs
set_option maxRecDepth 100000
theorem Q1x {code : Int} {v : Q0} (h : Q1u code v = true) : ofB code = true ∧ (ofS code).Kind = v.Kind ∧ Uc v = 0 ∧ Q1g (ofS code) v = true := by
 simp only [Q1u, Bool.and_eq_true, decide_eq_true_eq] at h
 exact ⟨h.1.1.1, h.1.1.2, h.1.2, h.2⟩
theorem Qjs : okU 0 := ⟨by decide, by decide⟩
theorem Qlj : okU 1 := ⟨by decide, by decide⟩
inductive Qlg (c : Ye) : Prop
 | sized (w : Nat) (hs : c.Sized = true) (hw : c.Width = w) (h : w = 1 ∨ w = 4) (hk : 19 ≤ c.Kind ∧ c.Kind ≤ 21) (hc : c.Code ≠ 65)
 | wide (hs : c.Sized = false) (hw : c.Width = 16) (hk : c.Kind = 15 ∨ c.Kind = 18) (hc : c.Code ≠ 65)
 | num (w : Nat) (hs : c.Sized = false) (hw : c.Width = w) (h : w = 0 ∨ w = 1 ∨ w = 2 ∨ w = 4 ∨ w = 8) (ht : Jm c.Kind = false) (hc : c.Code = 65 → w = 0 ∧ c.Kind = 2) (hb : 2 ≤ w → (V1 c.Kind).1 = 8 * w)
theorem Well.shape {code : Int} {c : Ye} (h : Well code c) (hi : c.Items = false) : Qlg c := by
 cases hs : c.Sized with
 | true =>
  obtain ⟨h1, h2, h3, h4⟩ := h.sized hi hs
  rcases h1 with h1 | h1
  ·exact .sized 1 hs h1 (.inl rfl) ⟨h2, h3⟩ h4
  ·exact .sized 4 hs h1 (.inr rfl) ⟨h2, h3⟩ h4
 | false =>
  by_cases h16 : c.Width = 16
  ·obtain ⟨h1, h2⟩ := h.wide hi hs h16
   exact .wide hs h16 h1 h2
  ·obtain ⟨h1, h2, h3, h4⟩ := h.num hi hs h16
   have hw : c.Width = (c.Width.toNat : Nat) := by omega
   refine .num c.Width.toNat hs hw (by omega) h1 (fun hc => ?_) (fun hb => ?_)
   ·obtain ⟨q1, q2⟩ := h3 hc
    exact ⟨by omega, q2⟩
   ·have := h4 (by omega)
    omega
theorem Ji {code : Int} {c : Ye} (h : Well code c) (hk : c.Kind ≤ 21) : c.Items = false := by
 rw [h.items]
 exact decide_eq_false (by omega)
theorem Qa6 (n : Nat) (h : n < 4611686018427387904) : IntKind.u64.wrap (n : Int) = n := V3 _ (by omega)
theorem Qbi (k : Int) (v : Q0) (n : Int) : (if k = 0 then some (v, n, (0 : Int)) else if k = 2 then some (⟨0, 0, [], []⟩, 0, 5) else some (⟨0, 0, [], []⟩, 0, k)) = some (if k = 0 then (v, n, 0) else (Vk, 0, if k = 2 then 5 else k)) := by
 split
 ·rfl
 ·split <;> rfl
theorem Qh1 (N : Nat) (code : Int) (s : List UInt8) (hs : Q4o s) (h : s.length < N) (hN : 20 < N) : Wo N code s = some (Q93 code s) := by
 simp only [Wo, Yp, Option.bind_some, Qw, Q93]
 cases hb : ofB code with
 | false => simp only [Bool.not_false, if_true, true_or]; rfl
 | true =>
  have hw := Qg8 code hb
  simp only [Bool.not_true, Bool.false_eq_true, if_false, Bool.true_eq_false, false_or]
  cases hi : (ofS code).Items with
  | true => rfl
  | false =>
   simp only [Bool.false_eq_true, if_false]
   generalize ofS code = c at *
   have hz : (0 : Int) = ((0 : Nat) : Int) := rfl
   cases hw.shape hi with
   | sized w hsz hw' h12 hk hc =>
    rw [hsz, hw', Q11 N s w hs (by omega) (by omega)]
    simp only [if_true, Option.bind_some, Int.toNat_natCast]
    by_cases hl : w ≤ s.length
    ·rw [if_pos hl]
     simp only []
     rw [Gu N s w 0 hl, if_neg (by omega)]
     simp only [Option.bind_some, Q1m]
     have hlt := J0 (s.take w)
     have h4 : 256 ^ (s.take w).length ≤ 256 ^ 4 := Nat.pow_le_pow_right (by omega) (by rw [List.length_take]; omega)
     have h5 : (256 : Nat) ^ 4 = 4294967296 := rfl
     unfold Q4o at hs
     rw [Qa6 _ (by omega)]
     generalize hm : Xp (s.take w) = m at *
     by_cases h6 : s.length - w < m
     ·rw [if_pos (by omega), if_pos h6]; rfl
     ·rw [if_neg (by omega), if_neg h6]
      rw [Ya _ (by omega), J2 N s w m (by unfold Q4o; omega) hl (by omega), if_pos (by omega)]
      have hcl : ((s.drop w).take m).length ≤ s.length := by rw [List.length_take, List.length_drop]; omega
      simp only [Option.bind_some, Qa, Qj, Vb]
      rw [if_neg (by simp), Q2s N _ Qjs (by dsimp only; omega) (by dsimp only; omega)]
      simp only [Option.bind_some, Vw]
      rw [Qbi]
      unfold Qf0
      rw [show ((w + m : Nat) : Int) = (w : Int) + (m : Int) by push_cast; rfl]
    ·rw [if_neg hl, if_pos (by omega)]
     simp only []
     have := Gu N s 0 3 (by omega)
     rw [← hz] at this
     rw [this]
     simp only [Option.bind_some, Q1m]
     unfold Q4o at hs
     rw [Qa6 _ (by omega), if_neg (by omega)]
     have e0 : Qg N ⟨s, 0, 3⟩ (IntKind.i64.wrap 0) = some ([], ⟨s, 0, 3⟩) := by
      simp only [Qg, Yk, Option.bind_some, Qw]
      rfl
     rw [e0]
     simp only [Option.bind_some, Qa, Vb]
     rw [if_pos (by decide)]; rfl
   | wide hsz hw' hk hc =>
    rw [hsz, hw']
    simp only [Bool.false_eq_true, if_false, Vw, if_true]
    have := J2 N s 0 16 hs (by omega) (by omega)
    rw [← hz, show ((16 : Nat) : Int) = 16 from rfl] at this
    rw [this]
    simp only [Nat.sub_zero, List.drop_zero, Option.bind_some]
    by_cases hl : 16 ≤ s.length
    ·rw [if_pos hl, if_neg (by omega)]
     have hcl : (s.take 16).length ≤ s.length := by rw [List.length_take]; omega
     unfold Q4o at hs
     simp only [Option.bind_some, Qa, Qj, Vb]
     rw [if_neg (by simp), Q2s N _ Qjs (by dsimp only; omega) (by dsimp only; omega)]
     simp only [Option.bind_some]
     rw [Qbi]
     rfl
    ·rw [if_neg hl, if_pos (by omega)]
     simp only [Qa, Option.bind_some, Vb]
     rw [if_pos (by decide)]; rfl
   | num w hsz hw' hh ht hc hbb =>
    rw [hsz, hw']
    simp only [Bool.false_eq_true, if_false, Vw, Int.toNat_natCast]
    rw [if_neg (by omega), if_neg (show ¬ ((w : Int) = 16) by omega)]
    by_cases h65 : c.Code = 65
    ·obtain ⟨rfl, hk2⟩ := hc h65
     rw [if_pos h65, if_pos h65, if_neg (by omega)]
     simp only [Option.bind_some, Qa, Qj, Vb]
     rw [if_neg (by simp), Q2s N _ Qlj (by simp only [List.length_nil]; omega) (by simp only [List.length_nil]; omega)]
     simp only [Option.bind_some]
     rw [Qbi]
     rfl
    ·rw [if_neg h65, if_neg h65, Q11 N s w hs (by omega) (by omega)]
     simp only [Option.bind_some]
     by_cases hl : w ≤ s.length
     ·rw [if_pos hl, if_neg (by omega)]
      have hlt := J0 (s.take w)
      rw [List.length_take, Nat.min_eq_left hl] at hlt
      simp only []
      rw [Qal N c _ w hw' hh hlt]
      simp only [Option.bind_some, Qa, Qj, Vb]
      have hu : okU (Ve c (Xp (s.take w) : Nat)) := by
       rcases hh with rfl | hh
       ·have : Ve c (Xp (s.take 0) : Nat) = 0 := by
         unfold Ve
         rw [if_neg (by omega)]; rfl
        rw [this]; exact ⟨by decide, by decide⟩
       ·exact (Q7w hw' (by omega) hlt).1
      rw [if_neg (by simp), Q2s N _ hu (by simp only [List.length_nil]; omega) (by simp only [List.length_nil]; omega)]
      simp only [Option.bind_some]
      rw [Qbi]
      rfl
     ·rw [if_neg hl, if_pos (by omega)]
      simp only []
      rw [hz, Qal N c 0 w hw' hh (Nat.pow_pos (by omega))]
      simp only [Option.bind_some, Qa, Vb]
      rw [if_pos (by decide)]; rfl
end
end Go.Av
namespace Go.Av
noncomputable section
open Go.Proofs
set_option maxRecDepth 100000
theorem Q0.ext' {v w : Q0} (h1 : v.Kind = w.Kind) (h2 : v.N' = w.N') (h3 : v.Text = w.Text) (h4 : v.Items = w.Items) : v = w := by
 cases v; cases w; simp_all
theorem Q3z {k : Int} (h : 19 ≤ k ∧ k ≤ 21) : Jm k = true := by
 unfold Jm; exact decide_eq_true (by omega)
theorem Qc9 {k : Int} (h : k = 15 ∨ k = 18) : Jm k = true := by
 unfold Jm; exact decide_eq_true (by omega)
theorem Q2u {code : Int} {v : Q0} (hf : Q1u code v = true) : (Vt (ofS code) v).length = (ofS code).Width.toNat + (if (ofS code).Sized then v.Text.length else 0) := by
 obtain ⟨f1, f2, f3, f4⟩ := Q1x hf
 obtain ⟨c1, c2, c3, c4, c5, c6, c7⟩ := Gb f3
 have hw := Qg8 code f1
 have hi := Ji hw (by omega)
 unfold Vt
 cases hw.shape hi with
 | sized w hs hw' h12 hk hc => rw [hs]; simp [Vi]
 | wide hs hw' hk hc =>
  rw [hs, hw']
  simp [c6 (by omega)]
 | num w hs hw' hh ht hc hbb =>
  rw [hs, hw']
  simp only [Bool.false_eq_true, if_false]
  rw [if_neg (by omega), Vi]; rfl
theorem Qfw {code : Int} {v : Q0} {w : Nat} (_hn : okU v.N') (hf : Q1u code v = true) (hs : (ofS code).Sized = false) (hw' : (ofS code).Width = w) (hh : w = 1 ∨ w = 2 ∨ w = 4 ∨ w = 8) (h65 : (ofS code).Code ≠ 65)
  (hbb : 2 ≤ w → (V1 (ofS code).Kind).1 = 8 * w) : Q0w v.N' (8 * w) (V1 (ofS code).Kind).2 = true := by
 obtain ⟨f1, f2, f3, f4⟩ := Q1x hf
 obtain ⟨c1, c2, c3, c4, c5, c6, c7⟩ := Gb f3
 unfold Q1g at f4
 rw [if_neg h65, hs, hw'] at f4
 simp only [Bool.false_eq_true, if_false] at f4
 rw [if_neg (by omega)] at f4
 by_cases h1 : w = 1
 ·subst h1
  rw [if_pos (by decide)] at f4
  exact f4
 ·simp only [Q7i, Bool.and_eq_true] at c3
  have := c3.1
  rw [← f2, hbb (by omega)] at this
  exact this
theorem Qkd {code : Int} {v : Q0} (hn : okU v.N') (hf : Q1u code v = true) (s : List UInt8) : Q93 code (Vt (ofS code) v ++ s) = (v, ((Vt (ofS code) v).length : Int), 0) := by
 have hlen := Q2u hf
 obtain ⟨f1, f2, f3, f4⟩ := Q1x hf
 obtain ⟨c1, c2, c3, c4, c5, c6, c7⟩ := Gb f3
 have hw := Qg8 code f1
 have hi := Ji hw (by omega)
 have nf := fun w => Qfw (w := w) hn hf
 unfold Q93
 rw [f1, hi, if_neg (by simp)]
 have hd : Vt (ofS code) v = Vt (ofS code) v := rfl
 unfold Vt at hd hlen ⊢
 cases hw.shape hi with
 | sized w hs hw' h12 hk hc =>
  simp only [hs, hw', if_true, Int.toNat_natCast, List.append_assoc]
  have hbl := Vi w v.Text.length
  have e1 : (Wc v.Text.length w ++ (v.Text ++ s)).take w = Wc v.Text.length w := List.take_left' hbl
  have e2 : (Wc v.Text.length w ++ (v.Text ++ s)).drop w = v.Text ++ s := List.drop_left' hbl
  have htx : Jm v.Kind = true := Q3z (by omega)
  have hn0 := Q7h htx c3 hn.1
  have e3 : v.Text.length % 256 ^ w = v.Text.length := by
   apply Nat.mod_eq_of_lt
   unfold Q1g at f4
   rw [if_neg hc, hs, if_pos rfl, hw'] at f4
   rcases h12 with rfl | rfl
   ·simp at f4; omega
   ·omega
  rw [e1, e2, Q2n, e3, List.take_left' rfl]
  rw [if_neg (by simp [hbl]; omega), if_neg (by simp [hbl])]
  have ev : (⟨(ofS code).Kind, 0, v.Text, []⟩ : Q0) = v := Q0.ext' f2 hn0.symm rfl c4.symm
  rw [ev, Qf0, if_pos f3]
  simp [hbl]
 | wide hs hw' hk hc =>
  simp only [hs, hw', Bool.false_eq_true, if_false, if_true]
  have h16 := c6 (by omega)
  have htx : Jm v.Kind = true := Qc9 (by omega)
  have hn0 := Q7h htx c3 hn.1
  rw [if_neg (by simp [h16]; omega), List.take_left' h16]
  have ev : (⟨(ofS code).Kind, 0, v.Text, []⟩ : Q0) = v := Q0.ext' f2 hn0.symm rfl c4.symm
  rw [ev, Qf0, if_pos f3]
  simp [h16]
 | num w hs hw' hh ht hc hbb =>
  simp only [hs, hw', Bool.false_eq_true, if_false, Int.toNat_natCast]
  have h16 : ¬ ((w : Int) = 16) := by omega
  have hbl := Vi w v.N'.toNat
  have ht0 := c5 (by rw [← f2]; exact ht)
  simp only [h16, if_false]
  rw [if_neg (by simp [hbl]; omega)]
  by_cases h65 : (ofS code).Code = 65
  ·obtain ⟨rfl, hk2⟩ := hc h65
   rw [if_pos h65]
   have hn1 : v.N' = 1 := by
    unfold Q1g at f4
    rw [if_pos h65] at f4
    simpa using f4
   have ev : (⟨(ofS code).Kind, 1, [], []⟩ : Q0) = v := Q0.ext' f2 hn1.symm ht0.symm c4.symm
   rw [ev, Qf0, if_pos f3]
   simp [hbl]
  ·rw [if_neg h65, List.take_left' hbl, Q2n]
   have e : Ve (ofS code) ((v.N'.toNat % 256 ^ w : Nat) : Int) = v.N' := by
    rcases hh with rfl | hh
    ·unfold Q1g at f4
     rw [if_neg h65, hs, hw'] at f4
     simp at f4
     unfold Ve
     rw [if_neg (by omega), f4]; rfl
    ·exact Qd4 hw' hh hn (nf w hs hw' hh h65 hbb)
   rw [e]
   have ev : (⟨(ofS code).Kind, v.N', [], []⟩ : Q0) = v := Q0.ext' f2 rfl ht0.symm c4.symm
   rw [ev, Qf0, if_pos f3]
   simp [hbl]
end
end Go.Av
namespace Go.Av
noncomputable section
open Go.Proofs
set_option maxRecDepth 100000
theorem Qax {v x : Q0} {n m : Int} (h : Qf0 v n = (x, m, 0)) : Uc v = 0 ∧ x = v ∧ m = n := by
 unfold Qf0 at h
 split at h
 ·rename_i h0
  cases h
  exact ⟨h0, rfl, rfl⟩
 ·rename_i h0
  simp only [Prod.mk.injEq] at h
  split at h <;> omega
theorem reads {code : Int} {s : List UInt8} {x : Q0} {n : Int} (hs : Q4o s) (h : Q93 code s = (x, n, 0)) : 0 ≤ n ∧ n ≤ s.length ∧ okU x.N' ∧ x.Text.length ≤ s.length ∧ Uc x = 0 ∧ Q1u code x = true ∧ Vt (ofS code) x = s.take n.toNat := by
 unfold Q93 at h
 split at h
 ·cases h
 rename_i h1
 have hb : ofB code = true := by
  cases hb : ofB code with
  | true => rfl
  | false => exact absurd (.inl hb) h1
 have hi : (ofS code).Items = false := by
  cases hi : (ofS code).Items with
  | false => rfl
  | true => exact absurd (.inr hi) h1
 have hw := Qg8 code hb
 split at h
 ·cases h
 rename_i h2
 have fit : ∀ v : Q0, v.Kind = (ofS code).Kind → Uc v = 0 → Q1g (ofS code) v = true → Q1u code v = true := fun v q1 q2 q3 => by
  simp only [Q1u, hb, q1, q2, q3, decide_true, Bool.and_self]
 have hd : ∀ v, Vt (ofS code) v = Vt (ofS code) v := fun _ => rfl
 unfold Q4o at hs
 cases hw.shape hi with
 | sized w hsz hw' h12 hk hc =>
  simp only [hsz, hw', if_true, Int.toNat_natCast] at h
  split at h
  ·cases h
  rename_i h3
  obtain ⟨q1, rfl, rfl⟩ := Qax h
  have hlw : w ≤ s.length := by omega
  have hmlt := J0 (s.take w)
  rw [List.length_take, Nat.min_eq_left hlw] at hmlt
  have hbn := Qe3 (s.take w)
  rw [List.length_take, Nat.min_eq_left hlw] at hbn
  generalize hm : Xp (s.take w) = m at *
  have hlen : ((s.drop w).take m).length = m := by rw [List.length_take, List.length_drop]; omega
  refine ⟨by omega, by omega, Qjs, by simp only [hlen]; omega, q1, fit _ rfl q1 ?_, ?_⟩
  ·unfold Q1g
   rw [if_neg hc, hsz, if_pos rfl, hw']
   rcases h12 with rfl | rfl
   ·simp only [hlen]
    simp at hmlt
    exact decide_eq_true (.inr (by omega))
   ·exact decide_eq_true (.inl rfl)
  ·unfold Vt
   simp only [hsz, if_true, hw', Int.toNat_natCast, hlen, hbn]
   rw [show ((w : Int) + (m : Int)).toNat = w + m by omega, List.take_add]
 | wide hsz hw' hk hc =>
  simp only [hsz, hw', Bool.false_eq_true, if_false, if_true] at h
  obtain ⟨q1, rfl, rfl⟩ := Qax h
  refine ⟨by omega, by omega, Qjs, by simp only [List.length_take]; omega, q1, fit _ rfl q1 ?_, ?_⟩
  ·unfold Q1g
   rw [if_neg hc, hsz, hw']; rfl
  ·unfold Vt
   simp only [hsz, hw', Bool.false_eq_true, if_false, if_true]
   rfl
 | num w hsz hw' hh ht hc hbb =>
  simp only [hsz, hw', Bool.false_eq_true, if_false, Int.toNat_natCast] at h
  rw [if_neg (show ¬ ((w : Int) = 16) by omega)] at h
  split at h
  ·rename_i h65
   obtain ⟨rfl, hk2⟩ := hc h65
   obtain ⟨q1, rfl, rfl⟩ := Qax h
   refine ⟨by omega, by omega, Qlj, by simp, q1, fit _ rfl q1 ?_, ?_⟩
   ·unfold Q1g
    rw [if_pos h65]; rfl
   ·unfold Vt
    simp only [hsz, hw', Bool.false_eq_true, if_false]
    rfl
  ·rename_i h65
   obtain ⟨q1, rfl, rfl⟩ := Qax h
   have hlw : w ≤ s.length := by omega
   have hlt := J0 (s.take w)
   have hbn := Qe3 (s.take w)
   rw [List.length_take, Nat.min_eq_left hlw] at hlt hbn
   rcases hh with rfl | hh
   ·have e0 : Ve (ofS code) (Xp (s.take 0) : Nat) = 0 := by
     unfold Ve
     rw [if_neg (by omega)]; rfl
    rw [e0] at q1 ⊢
    refine ⟨by omega, by omega, Qjs, by simp, q1, fit _ rfl q1 ?_, ?_⟩
    ·unfold Q1g
     rw [if_neg h65, hsz, hw']; rfl
    ·unfold Vt
     simp only [hsz, hw', Bool.false_eq_true, if_false]
     rfl
   ·obtain ⟨w1, w2, w3⟩ := Q7w hw' hh hlt
    refine ⟨by omega, by omega, w1, by simp, q1, fit _ rfl q1 ?_, ?_⟩
    ·unfold Q1g
     rw [if_neg h65, hsz, hw']
     simp only [Bool.false_eq_true, if_false]
     rw [if_neg (by omega)]
     split
     ·rename_i h1
      have : w = 1 := by omega
      subst this
      exact w3
     ·rfl
    ·unfold Vt
     simp only [hsz, hw', Bool.false_eq_true, if_false, Int.toNat_natCast]
     rw [if_neg (by omega), ← Qbg, w2, hbn]
end
end Go.Av
namespace Go.Av
noncomputable section
open Go.Proofs
set_option maxRecDepth 100000
end
end Go.Av
namespace Go.Av
noncomputable section
open Go.Proofs
set_option maxRecDepth 100000
theorem kinds {k : Int} (h : 1 ≤ k ∧ k ≤ 21) : k = 1 ∨ k = 2 ∨ k = 3 ∨ k = 4 ∨ k = 5 ∨ k = 6 ∨ k = 7 ∨ k = 8 ∨ k = 9 ∨ k = 10 ∨ k = 11 ∨ k = 12 ∨ k = 13 ∨ k = 14 ∨ k = 15 ∨ k = 16 ∨ k = 17 ∨ k = 18 ∨ k = 19 ∨ k = 20 ∨ k = 21 := by omega
end
end Go.Av
namespace Go.Av
noncomputable section
open Go.Proofs
set_option maxRecDepth 100000
def Qdn (k : Nat) : Bool := (X3 k).2.2.2.2 || (X3 k).2.2.2.1 || !decide ((X3 k).2.2.1 = 1) || decide (((X3 k).1 = 80 ∧ (X3 k).2.1 = 3) ∨ ((X3 k).1 = 81 ∧ (X3 k).2.1 = 7) ∨ ((X3 k).1 = 82 ∧ (X3 k).2.1 = 5) ∨ ((X3 k).1 = 83 ∧ (X3 k).2.1 = 6) ∨ ((X3 k).1 = 84 ∧ (X3 k).2.1 = 9) ∨ ((X3 k).1 = 85 ∧ (X3 k).2.1 = 10) ∨ ((X3 k).1 = 86 ∧ (X3 k).2.1 = 2))
theorem Qcf : ((List.range 40).all Qdn) = true := by decide +kernel
theorem Qjp {P : Int × Int × Int × Bool × Bool → Prop} {B : Nat → Bool} (hB : ((List.range 40).all B) = true) (hP : ∀ k, B k = true → P (X3 k)) {code : Int} (h : ofB code = true) : P (ofT code) := by
 have h1 : bsI code < 40 ∧ Ww (bsI code) = code := by simpa [ofB] using h
 have := List.all_eq_true.1 hB (bsI code) (by simpa using h1.1)
 have e : ofT code = X3 (bsI code) := by unfold ofT; rw [if_pos h]
 rw [e]; exact hP _ this
theorem Qls {code : Int} (h : ofB code = true) (hi : (ofS code).Items = false) (hs : (ofS code).Sized = false) (hw : (ofS code).Width = 1) :
  (code = 80 ∧ (ofS code).Kind = 3) ∨ (code = 81 ∧ (ofS code).Kind = 7) ∨ (code = 82 ∧ (ofS code).Kind = 5) ∨ (code = 83 ∧ (ofS code).Kind = 6) ∨ (code = 84 ∧ (ofS code).Kind = 9) ∨ (code = 85 ∧ (ofS code).Kind = 10) ∨ (code = 86 ∧ (ofS code).Kind = 2) := by
 have hc := (Qg8 code h).code
 have := Qjp (P := fun t => t.2.2.2.2 = false → t.2.2.2.1 = false → t.2.2.1 = 1 → (t.1 = 80 ∧ t.2.1 = 3) ∨ (t.1 = 81 ∧ t.2.1 = 7) ∨ (t.1 = 82 ∧ t.2.1 = 5) ∨ (t.1 = 83 ∧ t.2.1 = 6) ∨ (t.1 = 84 ∧ t.2.1 = 9) ∨ (t.1 = 85 ∧ t.2.1 = 10) ∨ (t.1 = 86 ∧ t.2.1 = 2)) Qcf (fun k hk h1 h2 h3 => by
  simp only [Qdn, h1, h2, h3, Bool.false_or, decide_true, Bool.not_true, decide_eq_true_eq] at hk
  exact hk) h
 have h2 := this hi hs hw
 have hc' : (ofT code).1 = code := hc
 rw [hc'] at h2
 exact h2
end
end Go.Av
namespace Go.Av
noncomputable section
open Go.Proofs
set_option maxRecDepth 100000
end
end Go.Av
namespace Go.Av
noncomputable section
open Go.Proofs
set_option maxRecDepth 100000
end
end Go.Av
namespace Go.Av
noncomputable section
open Go.Proofs
set_option maxRecDepth 100000
def nnS (v : Q0) : Bool := (Zg 0 v).getD false
theorem Ql2 (N : Nat) (v : Q0) : Zg N v = some (nnS v) := by
 have h : Zg N v = Zg 0 v := rfl
 rw [h]
 unfold nnS Zg
 simp only [Qw]
 repeat' split
 all_goals rfl
mutual
def Q2c : Q0 → Q0 → Bool
 | .mk k n t is, b => decide (k = b.Kind) && (decide (t = b.Text) && (decide (is.length = b.Items.length) && ((decide (n = b.N') || (nnS ⟨k, n, t, is⟩ && nnS b)) && Q4c is b.Items)))
def Q4c : List Q0 → List Q0 → Bool
 | [], _ => true
 | x :: l, y :: m => Q2c x y && Q4c l m
 | _ :: _, [] => false
end
theorem Qd6 (a b : Q0) : Q2c a b = (decide (a.Kind = b.Kind) && (decide (a.Text = b.Text) && (decide (a.Items.length = b.Items.length) && ((decide (a.N' = b.N') || (nnS a && nnS b)) && Q4c a.Items b.Items)))) := by
 cases a; simp only [Q2c]
theorem Qah {R : Q0 → Q0 → Option Bool} {N : Nat} {a b : Q0} (hlen : a.Items.length = b.Items.length) (hb : a.Items.length < 4611686018427387904)
  (hR : ∀ y ∈ a.Items, ∀ z, R y z = some (Q2c y z)) : ∀ (n i : Nat), i ≤ a.Items.length → a.Items.length - i < n →
  Y5 R N a b n (i : Int) = some (Q4c (a.Items.drop i) (b.Items.drop i)) ∧ Y6 R N a b n (i : Int) = some (Q4c (a.Items.drop i) (b.Items.drop i))
 | 0, i, _, h => by omega
 | n + 1, i, h1, h2 => by
  simp only [Y5, Y6, Qw, J4, Q15]
  by_cases hi : i < a.Items.length
  ·rw [if_pos (by omega), if_pos (by omega), Q1n, Q1n, List.getElem?_eq_getElem hi, List.getElem?_eq_getElem (show i < b.Items.length by omega)]
   simp only [Option.bind_some, hR _ (List.getElem_mem hi)]
   rw [Ya _ (by omega)]
   obtain ⟨ih1, ih2⟩ := Qah (N := N) hlen hb hR n (i + 1) (by omega) (by omega)
   rw [List.drop_eq_getElem_cons hi, List.drop_eq_getElem_cons (show i < b.Items.length by omega), Q4c]
   cases Q2c a.Items[i] b.Items[i] with
   | true =>
    simp only [Bool.not_true, Bool.false_eq_true, if_false, Bool.true_and]
    exact ⟨by exact_mod_cast ih1, by exact_mod_cast ih2⟩
   | false => simp
  ·rw [if_neg (by omega), if_neg (by omega), List.drop_of_length_le (by omega)]
   simp [Q4c]
theorem Qam : ∀ (N : Nat) (a b : Q0), a.sz < N → a.sz < 1000000000 → Yi N a b = some (Q2c a b)
 | 0, a, b, h, _ => by have := a.sz_eq; omega
 | N + 1, a, b, h, h2 => by
  have hs := a.sz_eq
  have hl := Q0.szs_len a.Items
  rw [Qd6]
  simp only [Yi, We, Qw, Vb, Q5w, Q15, Ql2, Option.bind_some]
  by_cases e1 : a.Kind = b.Kind
  ·by_cases e3 : a.Text = b.Text
   ·by_cases e4 : a.Items.length = b.Items.length
    ·rw [if_neg (by simp [e1]), if_neg (by simp [e3]), if_neg (by simp [e4])]
     obtain ⟨i1, i2⟩ := Qah (N := N) (R := Yi N) e4 (by omega) (fun y hy z => Qam N y z (by have := Q0.szs_mem _ y hy; omega) (by have := Q0.szs_mem _ y hy; omega)) N 0 (by omega) (by omega)
     rw [show ((0 : Nat) : Int) = 0 from rfl] at i1 i2
     rw [i1, i2, List.drop_zero, List.drop_zero]
     simp only [e1, e3, e4, decide_true, Bool.true_and]
     by_cases e2 : a.N' = b.N'
     ·simp [e2]
     ·simp only [e2, ne_eq, not_false_eq_true, if_true, decide_false, Bool.false_or]
      cases nnS a <;> cases nnS b <;> simp
    ·rw [if_neg (by simp [e1]), if_neg (by simp [e3]), if_pos (by omega)]
     simp [e4]
   ·rw [if_neg (by simp [e1]), if_pos (by simpa using e3)]
    simp [e3]
  ·rw [if_pos (by simpa using e1)]
   simp [e1]
def AL (v : Q0) (i j : Nat) : Prop := ∃ x y, v.Items[i]? = some x ∧ v.Items[j]? = some y ∧ Q2c x y = true
open Classical in
noncomputable def Qdd (v : Q0) : Int := if v.Kind ≠ 23 then 0 else if ∃ i j, 2 ≤ i ∧ i % 2 = 0 ∧ i < v.Items.length ∧ j < i ∧ j % 2 = 0 ∧ AL v i j then 16 else 0
open Classical in
theorem Qfa {N : Nat} {v : Q0} (hb : v.sz < 1000000000) (hN : v.sz < N) {k0 : Int → Option Int} {i : Nat} (hi : i < v.Items.length) (i2 : i % 2 = 0) : ∀ (n k : Nat), i - k < n → k % 2 = 0 → k ≤ i →
  Yh N k0 v (i : Int) n (k : Int) = if ∃ j, k ≤ j ∧ j < i ∧ j % 2 = 0 ∧ AL v i j then some 16 else k0 ((i + 2 : Nat) : Int)
 | 0, k, h, _, _ => by omega
 | n + 1, k, h, hk, hki => by
  have hs := v.sz_eq
  have hl := Q0.szs_len v.Items
  simp only [Yh, Qw, J4, Q1n]
  by_cases hlt : k < i
  ·rw [if_pos (by omega), List.getElem?_eq_getElem hi, List.getElem?_eq_getElem (show k < v.Items.length by omega)]
   simp only [Option.bind_some]
   have hsz := Q0.szs_mem _ _ (List.getElem_mem hi)
   rw [Qam N _ _ (by omega) (by omega)]
   simp only [Option.bind_some]
   cases hal : Q2c v.Items[i] v.Items[k] with
   | true =>
    rw [if_pos rfl, if_pos ⟨k, Nat.le_refl _, hlt, hk, _, _, List.getElem?_eq_getElem hi, List.getElem?_eq_getElem (by omega), hal⟩]
   | false =>
    rw [if_neg (by simp), Ya _ (by omega)]
    have := Qfa (k0 := k0) hb hN hi i2 n (k + 2) (by omega) (by omega) (by omega)
    rw [show ((k : Int) + 2) = ((k + 2 : Nat) : Int) by push_cast; rfl, this]
    by_cases hx : ∃ j, k + 2 ≤ j ∧ j < i ∧ j % 2 = 0 ∧ AL v i j
    ·rw [if_pos hx]
     obtain ⟨j, j1, j2, j3, j4⟩ := hx
     rw [if_pos ⟨j, by omega, j2, j3, j4⟩]
    ·rw [if_neg hx, if_neg]
     rintro ⟨j, j1, j2, j3, j4⟩
     by_cases hjk : j = k
     ·subst hjk
      obtain ⟨x, y, x1, y1, z1⟩ := j4
      rw [List.getElem?_eq_getElem hi] at x1
      rw [List.getElem?_eq_getElem (by omega)] at y1
      cases x1; cases y1
      rw [hal] at z1; cases z1
     ·exact hx ⟨j, by omega, j2, j3, j4⟩
  ·rw [if_neg (by omega), Ya _ (by omega), if_neg (by rintro ⟨j, j1, j2, _⟩; omega)]
   push_cast; rfl
open Classical in
theorem Qez {N : Nat} {v : Q0} (hb : v.sz < 1000000000) (hN : v.sz < N) : ∀ (n i : Nat), v.Items.length - i < n → i % 2 = 0 → i ≤ v.Items.length + 2 →
  Zt N v n (i : Int) = some (if ∃ i' j, i ≤ i' ∧ i' % 2 = 0 ∧ i' < v.Items.length ∧ j < i' ∧ j % 2 = 0 ∧ AL v i' j then 16 else 0)
 | 0, i, h, _, _ => by omega
 | n + 1, i, h, hi, hle => by
  have hs := v.sz_eq
  have hl := Q0.szs_len v.Items
  simp only [Zt, Qw, J4, Q15]
  by_cases hlt : i < v.Items.length
  ·rw [if_pos (by omega)]
   have h1 := Qfa (N := N) (k0 := Zt N v n) hb hN hlt hi N 0 (by omega) (by omega) (by omega)
   rw [show ((0 : Nat) : Int) = 0 from rfl] at h1
   rw [h1]
   by_cases hx : ∃ j, 0 ≤ j ∧ j < i ∧ j % 2 = 0 ∧ AL v i j
   ·rw [if_pos hx]
    obtain ⟨j, _, j2, j3, j4⟩ := hx
    rw [if_pos ⟨i, j, Nat.le_refl _, hi, hlt, j2, j3, j4⟩]
   ·rw [if_neg hx, Qez hb hN n (i + 2) (by omega) (by omega) (by omega)]
    by_cases hy : ∃ i' j, i + 2 ≤ i' ∧ i' % 2 = 0 ∧ i' < v.Items.length ∧ j < i' ∧ j % 2 = 0 ∧ AL v i' j
    ·rw [if_pos hy]
     obtain ⟨i', j, a1, a2, a3⟩ := hy
     rw [if_pos ⟨i', j, by omega, a2, a3⟩]
    ·rw [if_neg hy, if_neg]
     rintro ⟨i', j, a1, a2, a3, a4, a5, a6⟩
     by_cases he : i' = i
     ·subst he; exact hx ⟨j, by omega, a4, a5, a6⟩
     ·exact hy ⟨i', j, by omega, a2, a3, a4, a5, a6⟩
  ·rw [if_neg (by omega), if_neg]
   rintro ⟨i', j, a1, a2, a3, _⟩; omega
theorem Q9d (N : Nat) (v : Q0) (hb : v.sz < 1000000000) (hN : v.sz + 5 < N) : Y9 N v = some (Qdd v) := by
 have hs := v.sz_eq
 have hl := Q0.szs_len v.Items
 simp only [Y9, Qw, Vb, Qdd]
 by_cases h : v.Kind ≠ 23
 ·rw [if_pos h, if_pos h]
 ·rw [if_neg h, if_neg h]
  exact Qez hb (by omega) N 2 (by omega) (by omega) (by omega)
inductive Fine : Q0 → Prop
 | mk (v : Q0) (hn : okU v.N') (ht : v.Text.length ≤ 300000) (hi : ∀ x ∈ v.Items, Fine x) : Fine v
theorem Fine.num {v : Q0} (h : Fine v) : okU v.N' := by cases h; assumption
theorem Fine.text {v : Q0} (h : Fine v) : v.Text.length ≤ 300000 := by cases h; assumption
theorem Fine.items {v : Q0} (h : Fine v) : ∀ x ∈ v.Items, Fine x := by cases h; assumption
def Qdp (m : Int) : Bool := decide (0 ≤ m ∧ m ≤ 32)
theorem Q64 (N : Nat) (m : Int) : Y1 N m = some (Qdp m) := by
 unfold Y1 Qdp
 simp only [Qw, Qd1]
 by_cases h : 0 ≤ m
 ·rw [if_pos h]
  show some (decide (m ≤ 32)) = _
  rw [Option.some.injEq, decide_eq_decide]; omega
 ·rw [if_neg h, decide_eq_false (by omega)]
end
end Go.Av
namespace Go.Av
noncomputable section
open Go.Proofs
set_option maxRecDepth 100000
end
end Go.Av
namespace Go.Av
noncomputable section
open Go.Proofs
set_option maxRecDepth 100000
abbrev Rd := Q0 × Int × Int
def W9 (rd : List UInt8 → Rd) : Nat → List UInt8 → List Q0 → (List Q0 × List UInt8) × Int
 | 0, s, acc => ((acc, s), 0)
 | c + 1, s, acc => if (rd s).2.2 ≠ 0 then (([], []), (rd s).2.2) else W9 rd c (s.drop (rd s).2.1.toNat) (acc ++ [(rd s).1])
def Yj (data : Int → List UInt8 → Rd) : List UInt8 → Rd
 | [] => (Vk, 0, 3)
 | b :: t => if (data (b.toNat : Int) t).2.2 ≠ 0 then (Vk, 0, (data (b.toNat : Int) t).2.2) else ((data (b.toNat : Int) t).1, (data (b.toNat : Int) t).2.1 + 1, 0)
def Qj8 (rd : List UInt8 → Rd) (s : List UInt8) : Rd := if (W9 rd 2 s []).2 ≠ 0 then (Vk, 0, (W9 rd 2 s []).2) else (⟨25, 0, [], (W9 rd 2 s []).1.1⟩, ((s.length - (W9 rd 2 s []).1.2.length : Nat) : Int), 0)
noncomputable def Q92 (k num : Int) (q : (List Q0 × List UInt8) × Int) (tot : Nat) : Rd := if q.2 ≠ 0 then (Vk, 0, if q.2 = 3 then 5 else q.2) else if q.1.2 ≠ [] then (Vk, 0, 5)
 else if Qdd ⟨k, num, [], q.1.1⟩ ≠ 0 then (Vk, 0, Qdd ⟨k, num, [], q.1.1⟩) else (⟨k, num, [], q.1.1⟩, (tot : Int), 0)
theorem Q6t {k num e : Int} {tot : Nat} {x : List Q0 × List UInt8} (he : e ≠ 0) : Q92 k num (x, e) tot = (Vk, 0, if e = 3 then 5 else e) := by
 unfold Q92
 rw [if_pos (show (x, e).2 ≠ 0 from he)]
noncomputable def Qkm (data : Int → List UInt8 → Rd) (cnt tot : Nat) (k : Int) : List UInt8 → Rd
 | [] => (Vk, 0, 5)
 | b :: t => if ofB (b.toNat : Int) = false ∨ b.toNat = 0 then (Vk, 0, 8) else Q92 k (ofS (b.toNat : Int)).Kind (W9 (data (b.toNat : Int)) cnt t []) tot
noncomputable def Qie (data : Int → List UInt8 → Rd) (c : Ye) (w : Nat) (body : List UInt8) (tot : Nat) : Rd :=
 if body.length < w then (Vk, 0, 5)
 else if 1000 < Xp (body.take w) then (Vk, 0, 4)
 else if c.Kind = 23 ∧ Xp (body.take w) % 2 ≠ 0 then (Vk, 0, 5)
 else if c.Kind = 24 then Qkm data (Xp (body.take w)) tot c.Kind (body.drop w)
 else Q92 c.Kind 0 (W9 (Yj data) (Xp (body.take w)) (body.drop w) []) tot
noncomputable def Q5j (data : Int → List UInt8 → Rd) (c : Ye) (s : List UInt8) : Rd :=
 if s.length < c.Width.toNat then (Vk, 0, 3)
 else if s.length - c.Width.toNat < Xp (s.take c.Width.toNat) then (Vk, 0, 3)
 else Qie data c c.Width.toNat ((s.drop c.Width.toNat).take (Xp (s.take c.Width.toNat))) (c.Width.toNat + Xp (s.take c.Width.toNat))
noncomputable def Vl : Nat → Int → List UInt8 → Rd
 | 0, code, s => if ofB code = false then (Vk, 0, 8) else if (ofS code).Items = false then Q93 code s else (Vk, 0, 14)
 | m + 1, code, s => if ofB code = false then (Vk, 0, 8) else if (ofS code).Items = false then Q93 code s
  else if (ofS code).Kind = 25 then Qj8 (Yj (Vl m)) s else if (ofS code).Sized = false then (⟨(ofS code).Kind, 0, [], []⟩, 0, 0) else Q5j (Vl m) (ofS code) s
def Qgg (rd : List UInt8 → Rd) : Prop := ∀ s, s.length ≤ 600000 → (rd s).2.2 = 0 → 0 ≤ (rd s).2.1 ∧ (rd s).2.1 ≤ s.length ∧ (rd s).1.sz ≤ 1 + 1000 * (rd s).2.1.toNat
theorem Qiv (b : UInt8) : IntKind.i64.wrap ((b.toNat : Nat) : Int) = ((b.toNat : Nat) : Int) := by
 have h : b.toNat < 256 := b.toNat_lt
 exact Ya _ (by omega)
theorem Q13 {text : List UInt8} {at' : Nat} (_h : at' ≤ text.length) (k : Nat) : (text.drop at').drop k = text.drop (at' + k) := by rw [List.drop_drop]
theorem Q6s (N : Nat) (s : List UInt8) (i : Nat) (e : Int) (hi : i ≤ s.length) : Qs N ⟨s, i, e⟩ = some (s.drop i, ⟨s, i, e⟩) := by
 simp only [Qs, Qw]
 rw [if_pos (by simp), if_pos (by simp [Nat.ble_eq]; exact hi)]
 simp
theorem Ql6 (i : Nat) (h : i < 1000000000) : IntKind.u64.wrap ((i : Int) + 1) = ((i + 1 : Nat) : Int) := by
 rw [show ((i : Int) + 1) = ((i + 1 : Nat) : Int) by push_cast; rfl]; exact V3 _ (by omega)
theorem Q44 {R : List UInt8 → Int → Option Rd} {N : Nat} {c : Ye} {most : Int} {v9 : (List UInt8) × Q1} {v11 : Int × Q1} {rd : List UInt8 → Rd} {text : List UInt8} {cnt tot : Nat}
  (hm : 1 ≤ most ∧ most ≤ 32) (ht : text.length ≤ 600000) (hc : cnt ≤ 1000) (h11 : v11.1 = (cnt : Int)) (h9 : v9.2.at' = (tot : Int)) (hN : 700000000 < N) (hR : ∀ s, s.length ≤ text.length → R s (most - 1) = some (rd s)) (hg : Qgg rd) :
  ∀ (n i at' : Nat) (l : List Q0), i ≤ cnt → cnt - i < n → at' ≤ text.length → l.length = i → Q0.szs l ≤ i + 1000 * at' →
  Zv R N c most v9 v11 n (i : Int) text (at' : Int) 0 l = some (Q92 c.Kind 0 (W9 rd (cnt - i) (text.drop at') l) tot)
 | 0, i, at', l, _, h, _, _, _ => by omega
 | n + 1, i, at', l, hi, hn, ha, hl, hz => by
  simp only [Zv, Qw, J4, Vw, Vb, h11, Q6s N text at' 0 ha, Option.bind_some, Ya (most - 1) (show _ by omega), hR (text.drop at') (by rw [List.length_drop]; omega)]
  by_cases hic : i < cnt
  ·rw [if_pos (by omega)]
   obtain ⟨k, hk⟩ : ∃ k, cnt - i = k + 1 := ⟨cnt - i - 1, by omega⟩
   rw [hk, W9]
   have hgd := hg (text.drop at') (by rw [List.length_drop]; omega)
   generalize hr : rd (text.drop at') = r at hgd ⊢
   obtain ⟨x, m, e⟩ := r
   simp only [] at hgd ⊢
   by_cases he : e = 0
   ·subst he
    obtain ⟨g1, g2, g3⟩ := hgd rfl
    rw [List.length_drop] at g2
    obtain ⟨mm, rfl⟩ := Int.eq_ofNat_of_zero_le g1
    rw [if_pos rfl, J2 N text at' mm (by unfold Q4o; omega) ha (by omega), if_pos (by omega)]
    simp only [Option.bind_some]
    rw [if_neg (by decide), if_neg (by simp), if_pos (by simp [Nat.ble_eq]; omega), Ql6 i (by omega), if_neg (by simp)]
    have ih := Q44 (c := c) (v9 := v9) (tot := tot) hm ht hc h11 h9 hN hR hg n (i + 1) (at' + mm) (l ++ [x]) (by omega) (by omega) (by omega) (by simp [hl]) (by
     rw [Q0.szs_app]
     simp only [Q0.szs, Int.toNat_natCast] at g3 ⊢
     omega)
    rw [ih, show cnt - (i + 1) = k by omega, Q13 ha]
    simp only [Int.toNat_natCast]
   ·rw [if_neg he]
    rw [if_pos (show e ≠ 0 from he), if_pos (show e ≠ 0 from he), Q6t he]
    by_cases h3 : e = 3
    ·rw [if_pos h3, if_pos h3]; rfl
    ·rw [if_neg h3, if_neg h3]; rfl
  ·rw [if_neg (by omega), show cnt - i = 0 by omega, W9, Gu N text at' 0 ha]
   simp only [Option.bind_some]
   unfold Q92
   simp only []
   rw [if_neg (show ¬ ((0 : Int) ≠ 0) by simp)]
   by_cases hrest : text.drop at' = []
   ·have : text.length - at' = 0 := by
     have := congrArg List.length hrest
     rw [List.length_drop] at this; simpa using this
    rw [if_neg (by omega), if_neg (by simp [hrest])]
    have hsz : Q0.sz ⟨c.Kind, 0, [], l⟩ = 1 + Q0.szs l := by rw [Q0.sz_eq]
    rw [Q9d N ⟨c.Kind, 0, [], l⟩ (by omega) (by omega)]
    simp only [Option.bind_some]
    split
    ·rfl
    ·simp only [Qj, Option.bind_some, h9]
   ·have : text.length - at' ≠ 0 := by
     intro h0
     exact hrest (List.drop_of_length_le (by omega))
    rw [if_pos (by omega), if_pos hrest]; rfl
theorem Q4g {R : List UInt8 → Int → Option Rd} {N : Nat} {c : Ye} {most : Int} {v9 : (List UInt8) × Q1} {v11 : Int × Q1} {rd : List UInt8 → Rd} {text : List UInt8} {cnt tot : Nat}
  (hm : 1 ≤ most ∧ most ≤ 32) (ht : text.length ≤ 600000) (hc : cnt ≤ 1000) (h11 : v11.1 = (cnt : Int)) (h9 : v9.2.at' = (tot : Int)) (hN : 700000000 < N) (hR : ∀ s, s.length ≤ text.length → R s (most - 1) = some (rd s)) (hg : Qgg rd) :
  ∀ (n i at' : Nat) (l : List Q0), i ≤ cnt → cnt - i < n → at' ≤ text.length → l.length = i → Q0.szs l ≤ i + 1000 * at' →
  Zw R N c most v9 v11 n (i : Int) text (at' : Int) 0 l = some (Q92 c.Kind 0 (W9 rd (cnt - i) (text.drop at') l) tot)
 | 0, i, at', l, _, h, _, _, _ => by omega
 | n + 1, i, at', l, hi, hn, ha, hl, hz => by
  simp only [Zw, Qw, J4, Vw, Vb, h11, Q6s N text at' 0 ha, Option.bind_some, Ya (most - 1) (show _ by omega), hR (text.drop at') (by rw [List.length_drop]; omega)]
  by_cases hic : i < cnt
  ·rw [if_pos (by omega)]
   obtain ⟨k, hk⟩ : ∃ k, cnt - i = k + 1 := ⟨cnt - i - 1, by omega⟩
   rw [hk, W9]
   have hgd := hg (text.drop at') (by rw [List.length_drop]; omega)
   generalize hr : rd (text.drop at') = r at hgd ⊢
   obtain ⟨x, m, e⟩ := r
   simp only [] at hgd ⊢
   by_cases he : e = 0
   ·subst he
    obtain ⟨g1, g2, g3⟩ := hgd rfl
    rw [List.length_drop] at g2
    obtain ⟨mm, rfl⟩ := Int.eq_ofNat_of_zero_le g1
    rw [if_pos rfl, J2 N text at' mm (by unfold Q4o; omega) ha (by omega), if_pos (by omega)]
    simp only [Option.bind_some]
    rw [if_neg (by decide), if_neg (by simp), if_pos (by simp [Nat.ble_eq]; omega), Ql6 i (by omega), if_neg (by simp)]
    have ih := Q4g (c := c) (v9 := v9) (tot := tot) hm ht hc h11 h9 hN hR hg n (i + 1) (at' + mm) (l ++ [x]) (by omega) (by omega) (by omega) (by simp [hl]) (by
     rw [Q0.szs_app]
     simp only [Q0.szs, Int.toNat_natCast] at g3 ⊢
     omega)
    rw [ih, show cnt - (i + 1) = k by omega, Q13 ha]
    simp only [Int.toNat_natCast]
   ·rw [if_neg he]
    rw [if_pos (show e ≠ 0 from he), if_pos (show e ≠ 0 from he), Q6t he]
    by_cases h3 : e = 3
    ·rw [if_pos h3, if_pos h3]; rfl
    ·rw [if_neg h3, if_neg h3]; rfl
  ·rw [if_neg (by omega), show cnt - i = 0 by omega, W9, Gu N text at' 0 ha]
   simp only [Option.bind_some]
   unfold Q92
   simp only []
   rw [if_neg (show ¬ ((0 : Int) ≠ 0) by simp)]
   by_cases hrest : text.drop at' = []
   ·have : text.length - at' = 0 := by
     have := congrArg List.length hrest
     rw [List.length_drop] at this; simpa using this
    rw [if_neg (by omega), if_neg (by simp [hrest])]
    have hsz : Q0.sz ⟨c.Kind, 0, [], l⟩ = 1 + Q0.szs l := by rw [Q0.sz_eq]
    rw [Q9d N ⟨c.Kind, 0, [], l⟩ (by omega) (by omega)]
    simp only [Option.bind_some]
    split
    ·rfl
    ·simp only [Qj, Option.bind_some, h9]
   ·have : text.length - at' ≠ 0 := by
     intro h0
     exact hrest (List.drop_of_length_le (by omega))
    rw [if_pos (by omega), if_pos hrest]; rfl
theorem Q30 {R : List UInt8 → Int → Option Rd} {R2 : Int → List UInt8 → Int → Option Rd} {N : Nat} {c : Ye} {most : Int} {v9 : (List UInt8) × Q1} {v11 : Int × Q1} {v23 : Int × Q1} {v25 : Ye × Bool} {rd : List UInt8 → Rd} {text : List UInt8} {cnt tot : Nat} {b : UInt8}
  (hm : 1 ≤ most ∧ most ≤ 32) (ht : text.length ≤ 600000) (hc : cnt ≤ 1000) (h11 : v11.1 = (cnt : Int)) (h9 : v9.2.at' = (tot : Int)) (h23 : v23.1 = (b.toNat : Int)) (h25 : 0 ≤ v25.1.Kind ∧ v25.1.Kind ≤ 25) (hN : 700000000 < N) (hR : ∀ s, s.length ≤ text.length → R2 (b.toNat : Int) s (most - 1) = some (rd s)) (hg : Qgg rd) :
  ∀ (n i at' : Nat) (l : List Q0), i ≤ cnt → cnt - i < n → at' ≤ text.length → l.length = i → Q0.szs l ≤ i + 1000 * at' →
  Za R R2 N c most v9 v11 v23 v25 n (i : Int) text (at' : Int) 0 l = some (Q92 c.Kind v25.1.Kind (W9 rd (cnt - i) (text.drop at') l) tot)
 | 0, i, at', l, _, h, _, _, _ => by omega
 | n + 1, i, at', l, hi, hn, ha, hl, hz => by
  have hb : b.toNat < 256 := b.toNat_lt
  have hkw : IntKind.u64.wrap v25.1.Kind = v25.1.Kind := by rw [Q7q]; omega
  simp only [Za, Qw, J4, Vw, Vb, h11, h23, Qiv, hkw, Q6s N text at' 0 ha, Option.bind_some, Ya (most - 1) (show _ by omega), hR (text.drop at') (by rw [List.length_drop]; omega)]
  by_cases hic : i < cnt
  ·rw [if_pos (by omega), if_neg (by omega)]
   obtain ⟨k, hk⟩ : ∃ k, cnt - i = k + 1 := ⟨cnt - i - 1, by omega⟩
   rw [hk, W9]
   have hgd := hg (text.drop at') (by rw [List.length_drop]; omega)
   generalize hr : rd (text.drop at') = r at hgd ⊢
   obtain ⟨x, m, e⟩ := r
   simp only [] at hgd ⊢
   by_cases he : e = 0
   ·subst he
    obtain ⟨g1, g2, g3⟩ := hgd rfl
    rw [List.length_drop] at g2
    obtain ⟨mm, rfl⟩ := Int.eq_ofNat_of_zero_le g1
    rw [if_pos rfl, J2 N text at' mm (by unfold Q4o; omega) ha (by omega), if_pos (by omega)]
    simp only [Option.bind_some]
    rw [if_neg (by decide), if_neg (by simp), if_pos (by simp [Nat.ble_eq]; omega), Ql6 i (by omega), if_neg (by simp)]
    have ih := Q30 (R := R) (c := c) (v9 := v9) (tot := tot) hm ht hc h11 h9 h23 h25 hN hR hg n (i + 1) (at' + mm) (l ++ [x]) (by omega) (by omega) (by omega) (by simp [hl]) (by
     rw [Q0.szs_app]
     simp only [Q0.szs, Int.toNat_natCast] at g3 ⊢
     omega)
    rw [ih, show cnt - (i + 1) = k by omega, Q13 ha]
    simp only [Int.toNat_natCast]
   ·rw [if_neg he]
    rw [if_pos (show e ≠ 0 from he), if_pos (show e ≠ 0 from he), Q6t he]
    by_cases h3 : e = 3
    ·rw [if_pos h3, if_pos h3]; rfl
    ·rw [if_neg h3, if_neg h3]; rfl
  ·rw [if_neg (by omega), show cnt - i = 0 by omega, W9, Gu N text at' 0 ha]
   simp only [Option.bind_some]
   unfold Q92
   simp only []
   rw [if_neg (show ¬ ((0 : Int) ≠ 0) by simp)]
   by_cases hrest : text.drop at' = []
   ·have : text.length - at' = 0 := by
     have := congrArg List.length hrest
     rw [List.length_drop] at this; simpa using this
    rw [if_neg (by omega), if_neg (by simp [hrest])]
    have hsz : Q0.sz ⟨c.Kind, v25.1.Kind, [], l⟩ = 1 + Q0.szs l := by rw [Q0.sz_eq]
    rw [Q9d N ⟨c.Kind, v25.1.Kind, [], l⟩ (by omega) (by omega)]
    simp only [Option.bind_some]
    split
    ·rfl
    ·simp only [Qj, Option.bind_some, h9]
   ·have : text.length - at' ≠ 0 := by
     intro h0
     exact hrest (List.drop_of_length_le (by omega))
    rw [if_pos (by omega), if_pos hrest]; rfl
end
end Go.Av
namespace Go.Av
noncomputable section
open Go.Proofs
set_option maxRecDepth 100000
end
end Go.Av
namespace Go.Av
noncomputable section
open Go.Proofs
set_option maxRecDepth 100000
end
end Go.Av
namespace Go.Av
noncomputable section
open Go.Proofs
set_option maxRecDepth 100000
theorem Ql5 {code : Int} {v : Q0} {k : Nat} (hf : Q1u code v = true) (hk : k < (Vt (ofS code) v).length) : Q93 code ((Vt (ofS code) v).take k) = (Vk, 0, 3) := by
 have hlen := Q2u hf
 obtain ⟨f1, f2, f3, f4⟩ := Q1x hf
 obtain ⟨c1, c2, c3, c4, c5, c6, c7⟩ := Gb f3
 have hw := Qg8 code f1
 have hi := Ji hw (by omega)
 have hw0 : ((Vt (ofS code) v).take k).length = k := by rw [List.length_take]; omega
 unfold Q93
 rw [f1, hi, if_neg (by simp), hw0]
 split
 ·rfl
 rename_i hkw
 cases hw.shape hi with
 | sized w hs hw' h12 hk2 hc =>
  simp only [hs, hw', if_true, Int.toNat_natCast] at hlen hkw ⊢
  have hkw : w ≤ k := by omega
  have e1 : ((Vt (ofS code) v).take k).take w = Wc v.Text.length w := by
   rw [List.take_take, Nat.min_eq_left hkw]
   unfold Vt
   rw [hs, if_pos rfl, hw', Int.toNat_natCast, List.take_left' (Vi _ _)]
  have e3 : v.Text.length % 256 ^ w = v.Text.length := by
   apply Nat.mod_eq_of_lt
   unfold Q1g at f4
   rw [if_neg hc, hs, if_pos rfl, hw'] at f4
   rcases h12 with rfl | rfl
   ·simp at f4; omega
   ·omega
  rw [e1, Q2n, e3, if_pos (by omega)]
 | wide hs hw' hk2 hc =>
  simp only [hs, hw', Bool.false_eq_true, if_false] at hlen hkw
  have : (16 : Int).toNat = 16 := rfl
  omega
 | num w hs hw' hh ht hc hbb =>
  simp only [hs, hw', Bool.false_eq_true, if_false] at hlen hkw
  omega
end
end Go.Av
namespace Go.Av
noncomputable section
open Go.Proofs
set_option maxRecDepth 100000
theorem longer {a b : Int} {v : Q0} (ha : Q1u a v = true) (hb : Q1u b v = true) (hw : (ofS a).Width ≤ (ofS b).Width) : (Vt (ofS a) v).length ≤ (Vt (ofS b) v).length := by
 rw [Q2u ha, Q2u hb]
 obtain ⟨f1, f2, f3, f4⟩ := Q1x ha
 obtain ⟨g1, g2, g3, g4⟩ := Q1x hb
 obtain ⟨c1, c2, _⟩ := Gb f3
 have wa := Qg8 a f1
 have wb := Qg8 b g1
 have hs : (ofS a).Sized = true → (ofS b).Sized = true := fun hs => by
  obtain ⟨_, q1, q2, _⟩ := wa.sized (Ji wa (by omega)) hs
  cases wb.shape (Ji wb (by omega)) with
  | sized w hs hw' h12 hk2 hc => exact hs
  | wide hs hw' hk2 hc => omega
  | num w hs hw' hh ht hc hbb =>
   have := Q3z (k := (ofS b).Kind) (by omega)
   rw [ht] at this; cases this
 cases h : (ofS a).Sized with
 | true => rw [hs h]; simp only [if_true]; omega
 | false => simp only [Bool.false_eq_true, if_false]; omega
end
end Go.Av
