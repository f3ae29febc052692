/- Part of the proof of EventCopies: for every input the law returns true; no condition. -/
import Derived.Test.YtnbdhlnkhdhohaaGreatDoorLiftF4
import Derived.Test.YtnbdhlnkhdhohaaGreatDoorAvTac
import Derived.Test.YtnbdhlnkhdhohaaGreatDoorOks
namespace Go.Av
noncomputable section
open Go.Proofs
theorem Q3n {α : Type} (b : Bool) (x y : α) : cond b x y = if b = true then x else y := by cases b <;> rfl
@[simp] theorem Qk1 (x y : Int) : (Q3 .lss x y = true) = (x < y) := by simp [Q3]
@[simp] theorem Z20 (x y : Int) : (Q3 .leq x y = true) = (x ≤ y) := by simp [Q3]
@[simp] theorem Qss (x y : Int) : (Q3 .gtr x y = true) = (x > y) := by simp [Q3]
@[simp] theorem Zig (x y : Int) : (Q3 .geq x y = true) = (x ≥ y) := by simp [Q3]
@[simp] theorem Z02 (x y : Int) : (Q3 .eql x y = true) = (x = y) := by simp [Q3]
@[simp] theorem Z3e (x y : Int) : (Q3 .neq x y = true) = (x ≠ y) := by simp [Q3]
theorem Qbe (x : Int) (h : -9223372036854775808 ≤ x ∧ x ≤ 9223372036854775807) : IntKind.wrap .i64 x = x := IntWalk.i64_in x h
mutual
def Q0.sz : Q0 → Nat
 | .mk _ _ _ is => 1 + Q0.szs is
def Q0.szs : List Q0 → Nat
 | [] => 0
 | v :: l => v.sz + Q0.szs l
end
theorem Q0.sz_eq (v : Q0) : v.sz = 1 + Q0.szs v.Items := by cases v; simp [Q0.sz]
theorem Q0.szs_len : ∀ l : List Q0, l.length ≤ Q0.szs l
 | [] => by simp
 | v :: l => by
  have h1 := Q0.szs_len l;have h2 := Q0.sz_eq v;simp only [Q0.szs, Lj];omega
theorem Q0.szs_mem : ∀ (l : List Q0) (v : Q0), v ∈ l → v.sz ≤ Q0.szs l
 | [], v, h => by cases h
 | u :: l, v, h => by
  simp only [Q0.szs]
  rcases Mj.1 h with rfl | h
  ·omega
  have := Q0.szs_mem l v h; omega
noncomputable instance : DecidableEq Q0 := fun a b => Classical.propDecidable (a = b)
theorem Q2y (l : List Q0) : (Q0.rows l).length = l.length := by rw [Q0.rows_eq, Q5]
theorem Qak {α : Type} (l : List α) (i : Nat) : idx l (i : Int) = l[i]? := rfl
theorem Qq2 (x y : List UInt8) : (Q4s .neq x y = true) = (x ≠ y) := by simp [Q4s]
end
end Go.Av
namespace Go.Av
noncomputable section
open Go.Proofs
mutual
def Q0.txt : Q0 → Prop
 | .mk _ _ t is => t.length ≤ 400 ∧ Q0.txts is
def Q0.txts : List Q0 → Prop
 | [] => True
 | v :: l => v.txt ∧ Q0.txts l
end
theorem Q0.txt_eq (v : Q0) : v.txt = (v.Text.length ≤ 400 ∧ Q0.txts v.Items) := by cases v; simp [Q0.txt]
theorem Q0.szs_app : ∀ l m : List Q0, Q0.szs (l ++ m) = Q0.szs l + Q0.szs m
 | [], m => by simp [Q0.szs]
 | v :: l, m => by simp [Q0.szs, Q0.szs_app l m]; omega
theorem Q0.txts_app : ∀ l m : List Q0, Q0.txts (l ++ m) = (Q0.txts l ∧ Q0.txts m)
 | [], m => by simp [Q0.txts]
 | v :: l, m => by simp [Q0.txts, Q0.txts_app l m, and_assoc]
theorem Qo3 {R : Q0 → Int → Int → Option Int} {N : Nat} {v : Q0} {deep most : Int} (hd : 0 ≤ deep ∧ deep ≤ 6) (hm : 0 ≤ most ∧ most ≤ 40) (hl : (v.Items.length : Int) ≤ most)
  (hR : ∀ y (m : Int), 0 ≤ m → m ≤ 40 → ∃ r, R y (deep - 1) m = some r ∧ 1 ≤ r ∧ r ≤ m + 1 ∧ (r ≤ m → r = y.sz ∧ y.txt)) : ∀ (n : Nat) (k : Int) (i : Nat), i ≤ v.Items.length → v.Items.length - i < n →
  1 ≤ k → k ≤ most + 1 → (k ≤ most → k = 1 + Q0.szs (v.Items.take i) ∧ Q0.txts (v.Items.take i)) →
  ∃ r, Zv R N v deep most n k (i : Int) = some r ∧ 1 ≤ r ∧ r ≤ most + 1 ∧ (r ≤ most → r = 1 + Q0.szs v.Items ∧ Q0.txts v.Items)
 | 0, _, _, _, h, _, _, _ => by omega
 | n + 1, k, i, h1, h2, hk1, hk2, hk3 => by
  simp only [Zv, Q3n, Qk1, Z20, Q2y]
  by_cases hi : i < v.Items.length
  ·rw [if_pos (by omega)]
   by_cases hkm : k ≤ most
   ·rw [if_pos hkm, Qak, Ld hi, Qbe (deep - 1) (by omega), Qbe (most - k) (by omega)];obtain ⟨r, r1, r2, r3, r4⟩ := hR v.Items[i] (most - k) (by omega) (by omega);simp only [Li, r1];rw [Qbe (k + r) (by omega), Qbe ((i : Int) + 1) (by omega)]
    have := Qo3 (N := N) hd hm hl hR n (k + r) (i + 1) (by omega) (by omega) (by omega) (by omega) (fun h => by
     obtain ⟨q1, q2⟩ := r4 (by omega);obtain ⟨q3, q4⟩ := hk3 hkm;rw [Ny hi, Q0.szs_app, Q0.txts_app];refine ⟨?_, q4, ?_⟩
     ·simp only [Q0.szs]; omega
     simp only [Q0.txts]; exact ⟨q2, trivial⟩)
    exact_mod_cast this
   rw [if_neg hkm];exact ⟨k, rfl, hk1, hk2, fun h => absurd h hkm⟩
  rw [if_neg (by omega)];refine ⟨k, rfl, hk1, hk2, fun h => ?_⟩;have := hk3 h
  rwa [Mo (by omega)] at this
theorem Qi2 : ∀ (N : Nat) (v : Q0) (deep most : Int), -1 ≤ deep → deep ≤ 6 → 0 ≤ most → most ≤ 40 → deep + 50 < N →
  ∃ r, Zk N v deep most = some r ∧ 1 ≤ r ∧ r ≤ most + 1 ∧ (r ≤ most → r = v.sz ∧ v.txt)
 | 0, v, deep, most, h1, h2, h3, h4, h5 => by omega
 | N + 1, v, deep, most, h1, h2, h3, h4, h5 => by
  simp only [Zk, Uv, Q3n, Qk1, Qss, Q2y, Qbe (most + 1) (show _ by omega)]
  by_cases e1 : deep < 0
  ·rw [if_pos e1]; exact ⟨_, rfl, by omega, by omega, fun h => by omega⟩
  rw [if_neg e1]
  by_cases e2 : (v.Items.length : Int) > most
  ·rw [if_pos e2]; exact ⟨_, rfl, by omega, by omega, fun h => by omega⟩
  rw [if_neg e2]
  by_cases e3 : (v.Text.length : Int) > 400
  ·rw [if_pos e3]; exact ⟨_, rfl, by omega, by omega, fun h => by omega⟩
  rw [if_neg e3];have := Qo3 (N := N) (R := Zk N) (v := v) (deep := deep) (most := most) ⟨by omega, h2⟩ ⟨h3, h4⟩ (by omega)
   (fun y m hm1 hm2 => Qi2 N y (deep - 1) m (by omega) (by omega) hm1 hm2 (by omega)) N 1 0 (by omega) (by omega) (by omega) (by omega) (fun _ => by simp [Q0.szs, Q0.txts])
  obtain ⟨r, r1, r2, r3, r4⟩ := this;refine ⟨r, r1, r2, r3, fun h => ?_⟩;obtain ⟨q1, q2⟩ := r4 h;have hs := v.sz_eq;rw [Q0.txt_eq];exact ⟨by omega, by omega, q2⟩
theorem Qr7 (N : Nat) (v : Q0) (h : 60 < N) : ∃ b, W6 N v = some b ∧ (b = true → v.sz ≤ 40 ∧ v.txt) := by
 obtain ⟨r, r1, r2, r3, r4⟩ := Qi2 N v 6 40 (by omega) (by omega) (by omega) (by omega) (by omega);refine ⟨Q3 .leq r 40, by simp [W6, r1], fun h => ?_⟩;rw [Z20] at h;obtain ⟨q1, q2⟩ := r4 h;exact ⟨by omega, q2⟩
end
end Go.Av
namespace Go.Av
noncomputable section
open Go.Proofs
def Q8o (k : Int) : Int × Bool :=
 if k = 2 then (1, false) else if k = 3 then (8, false) else if k = 4 then (16, false)
 else if k = 5 ∨ k = 11 ∨ k = 13 ∨ k = 16 then (32, false) else if k = 6 ∨ k = 12 ∨ k = 14 then (64, false)
 else if k = 7 then (8, true) else if k = 8 then (16, true) else if k = 9 then (32, true) else if k = 10 ∨ k = 17 then (64, true) else (0, false)
def Qcq (k : Int) : Bool := decide (k = 15 ∨ k = 18 ∨ k = 19 ∨ k = 20 ∨ k = 21)
def Z4v (n : Int) : Bool := decide (n ≤ 1114111 ∧ ¬ (55296 ≤ n ∧ n ≤ 57343))
def s64 (n : Int) : Int := if n < 9223372036854775808 then n else n - 18446744073709551616
def Qk8 (n bits : Int) (signed : Bool) : Bool := if signed then decide (-(2 ^ (bits.toNat - 1)) ≤ s64 n ∧ s64 n < 2 ^ (bits.toNat - 1)) else decide (n < 2 ^ bits.toNat)
theorem two_pow_pos (m : Nat) : (1 : Int) ≤ 2 ^ m := by
 have := Nat.one_le_two_pow (n := m)
 exact_mod_cast this
end
end Go.Av
namespace Go.Av
noncomputable section
def Qky (s : List UInt8) : Nat := s.foldl (fun a b => a * 256 + b.toNat) 0
theorem Qfq (s : List UInt8) (b : UInt8) : Qky (s ++ [b]) = Qky s * 256 + b.toNat := by simp [Qky]
def Qhp : Nat → Nat → List UInt8
 | _, 0 => []
 | n, w + 1 => Qhp (n / 256) w ++ [UInt8.ofNat (n % 256)]
theorem Q97 : ∀ (w n : Nat), (Qhp n w).length = w
 | 0, _ => rfl
 | w + 1, n => by simp [Qhp, Q97 w]
theorem Qen : ∀ (w n : Nat), Qky (Qhp n w) = n % 256 ^ w
 | 0, n => by simp [Qhp, Qky, Nat.mod_one]
 | w + 1, n => by
  rw [Qhp, Qfq, Qen w, Cx, Bs (256 ^ w) 256, Nat.mod_mul]
  have : (UInt8.ofNat (n % 256)).toNat = n % 256 := by simp
  rw [this]; omega
theorem Qza {α : Type} {P : List α → Prop} (h0 : P []) (h1 : ∀ s b, P s → P (s ++ [b])) (s : List α) : P s := by
 have h : ∀ t : List α, P t.reverse := by
  intro t
  induction t with
  | nil => exact h0
  | cons b t ih => rw [List.reverse_cons]; exact h1 _ _ ih
 have := h s.reverse
 rwa [List.reverse_reverse] at this
theorem Qu1 : ∀ (s : List UInt8), Qky s < 256 ^ s.length := by
 refine Qza (by simp [Qky]) (fun s b ih => ?_)
 ·rw [Qfq, Lg, Bi, Cx];have := b.toNat_lt;simp at this;omega
theorem Qup : ∀ (s : List UInt8), Qhp (Qky s) s.length = s := by
 refine Qza rfl (fun s b ih => ?_)
 ·rw [Qfq, Lg, Bi, Qhp];have hb := b.toNat_lt;simp at hb;rw [show (Qky s * 256 + b.toNat) / 256 = Qky s by omega, ih, show (Qky s * 256 + b.toNat) % 256 = b.toNat by omega];simp
theorem Qog : ∀ (w n : Nat), Qhp (n % 256 ^ w) w = Qhp n w
 | 0, n => rfl
 | w + 1, n => by
  have h := Qog w (n / 256);rw [Qhp, Qhp, Cx, Bs (256 ^ w) 256, Nat.mod_mul];rw [show (n % 256 + 256 * (n / 256 % 256 ^ w)) / 256 = n / 256 % 256 ^ w by omega, h, show (n % 256 + 256 * (n / 256 % 256 ^ w)) % 256 = n % 256 by omega]
end
end Go.Av
namespace Go.Av
noncomputable section
open Go.Proofs
def inB (s : List UInt8) (i lo hi : Nat) : Bool := match s[i]? with
 | some b => decide (lo ≤ b.toNat ∧ b.toNat ≤ hi)
 | none => false
def cpN (s : List UInt8) : Nat := match s with
 | [] => 0
 | c :: _ => if c.toNat < 128 then 1
  else if 194 ≤ c.toNat ∧ c.toNat ≤ 223 then (if inB s 1 128 191 then 2 else 0)
  else if c.toNat = 224 then (if inB s 1 160 191 && inB s 2 128 191 then 3 else 0)
  else if c.toNat = 237 then (if inB s 1 128 159 && inB s 2 128 191 then 3 else 0)
  else if 225 ≤ c.toNat ∧ c.toNat ≤ 239 then (if inB s 1 128 191 && inB s 2 128 191 then 3 else 0)
  else if c.toNat = 240 then (if inB s 1 144 191 && inB s 2 128 191 && inB s 3 128 191 then 4 else 0)
  else if 241 ≤ c.toNat ∧ c.toNat ≤ 243 then (if inB s 1 128 191 && inB s 2 128 191 && inB s 3 128 191 then 4 else 0)
  else if c.toNat = 244 then (if inB s 1 128 143 && inB s 2 128 191 && inB s 3 128 191 then 4 else 0)
  else 0
def Qbc : Nat → List UInt8 → Bool
 | 0, s => s.isEmpty
 | n + 1, s => if s.isEmpty then true else match cpN s with
  | 0 => false
  | k + 1 => Qbc n (s.drop (k + 1))
def J6 (s : List UInt8) : Bool := Qbc s.length s
theorem Qkp : ∀ (n m : Nat) (s : List UInt8), s.length ≤ n → s.length ≤ m → Qbc n s = Qbc m s
 | 0, 0, s, _, _ => rfl
 | 0, m + 1, s, h, _ => by
  have : s = [] := Nu.1 (by omega);subst this; simp [Qbc]
 | n + 1, 0, s, _, h => by
  have : s = [] := Nu.1 (by omega);subst this; simp [Qbc]
 | n + 1, m + 1, s, h1, h2 => by
  simp only [Qbc]
  cases s with
  | nil => rfl
  | cons c r =>
   simp only [List.isEmpty_cons, Lm, if_false];split
   ·rfl
   exact Qkp n m _ (by simp at h1 ⊢; omega) (by simp at h2 ⊢; omega)
theorem Qtl : J6 [] = true := rfl
theorem Qbf (s : List UInt8) (hne : s ≠ []) (h : cpN s = 0) : J6 s = false := by
 cases s with
 | nil => exact absurd rfl hne
 | cons c r => unfold J6; simp only [Lj, Qbc, h]; rfl
theorem Q9e (s : List UInt8) (k : Nat) (h : cpN s = k + 1) : J6 s = J6 (s.drop (k + 1)) := by
 cases s with
 | nil => simp [cpN] at h
 | cons c r =>
  unfold J6;simp only [Lj, Qbc, h, List.isEmpty_cons, Lm, if_false];exact Qkp _ _ _ (by simp) (by simp)
theorem Qas : ∀ (k : Nat) (s : List UInt8), (∀ b ∈ s.take k, b < 128) → J6 s = J6 (s.drop k)
 | 0, s, _ => by simp
 | k + 1, [], _ => by simp
 | k + 1, c :: r, h => by
  have hc : c < 128 := h c (by simp)
  have h1 : cpN (c :: r) = 1 := by simp only [cpN]; rw [if_pos (by exact hc)]
  rw [Q9e (c :: r) 0 h1];simpa using Qas k r (fun b hb => h b (by simp [hb]))
def Z2z (s : List UInt8) : Bool := s.all fun b => decide (b.toNat < 128)
def Qmy (k n : Int) : Bool := Qk8 n (Q8o k).1 (Q8o k).2 && (k != 16 || Z4v n)
def Z4r (k : Int) (t : List UInt8) : Int := if k = 20 then (if J6 t then 0 else 6) else if k = 21 then (if Z2z t then 0 else 6) else 0
def Q7z (v : Q0) : Int :=
 if v.Kind < 1 ∨ 21 < v.Kind then 8
 else if Qmy v.Kind v.N' = false ∨ v.Items ≠ [] then 2
 else if Qcq v.Kind = false then (if v.Text ≠ [] then 2 else 0)
 else if (v.Kind = 15 ∨ v.Kind = 18) ∧ v.Text.length ≠ 16 then 2
 else if 1048576 < v.Text.length then 4 else Z4r v.Kind v.Text
def Qda (c : Q8m) (v : Q0) : Bool :=
 if c.Code = 65 then decide (v.N' = 1) else if c.Sized then decide (c.Width = 4 ∨ v.Text.length ≤ 255)
 else if c.Width = 0 then decide (v.N' = 0) else if c.Width = 1 then Qk8 v.N' 8 (Q8o c.Kind).2 else true
def Qgm (code : Int) (v : Q0) : Bool := ofB code && decide ((ofS code).Kind = v.Kind) && decide (Q7z v = 0) && Qda (ofS code) v
def Q6o (c : Q8m) (v : Q0) : List UInt8 :=
 if c.Sized then Qhp v.Text.length c.Width.toNat ++ v.Text else if c.Width = 16 then v.Text else Qhp v.N'.toNat c.Width.toNat
def Zip (code : Int) (v : Q0) : List UInt8 × Int :=
 if Q7z v ≠ 0 then ([], Q7z v) else if Qgm code v = false then ([], 2) else (Q6o (ofS code) v, 0)
def Q8a (c : Q8m) (n : Int) : Int := if (Q8o c.Kind).2 = true ∧ 0 < c.Width ∧ 2 ^ (8 * c.Width.toNat - 1) ≤ n then n + (18446744073709551616 - 2 ^ (8 * c.Width.toNat)) else n
def Qur : Q0 := ⟨0, 0, [], []⟩
def Qvj (v : Q0) (n : Int) : Q0 × Int × Int := if Q7z v = 0 then (v, n, 0) else (Qur, 0, if Q7z v = 2 then 5 else Q7z v)
def Z1j (code : Int) (s : List UInt8) : Q0 × Int × Int :=
 if ofB code = false ∨ (ofS code).Items = true then (Qur, 0, 8)
 else if (s.length : Int) < (ofS code).Width then (Qur, 0, 3)
 else if (ofS code).Sized = true then
  if s.length - (ofS code).Width.toNat < Qky (s.take (ofS code).Width.toNat) then (Qur, 0, 3)
  else Qvj ⟨(ofS code).Kind, 0, (s.drop (ofS code).Width.toNat).take (Qky (s.take (ofS code).Width.toNat)), []⟩ ((ofS code).Width + Qky (s.take (ofS code).Width.toNat))
 else if (ofS code).Width = 16 then Qvj ⟨(ofS code).Kind, 0, s.take 16, []⟩ 16
 else if (ofS code).Code = 65 then Qvj ⟨(ofS code).Kind, 1, [], []⟩ 0
 else Qvj ⟨(ofS code).Kind, Q8a (ofS code) (Qky (s.take (ofS code).Width.toNat)), [], []⟩ (ofS code).Width
end
end Go.Av
namespace Go.Av
noncomputable section
open Go.Proofs
set_option maxRecDepth 100000
def G4 : List UInt8 → Nat
 | [] => 0
 | b :: r => b.toNat + 256 * G4 r
theorem Qoy : ∀ (s : List UInt8) (k : Nat), s.length ≤ k → G4 s < 256 ^ k
 | [], k, _ => Nat.pow_pos (by omega)
 | b :: r, 0, h => by simp at h
 | b :: r, k + 1, h => by
  have h1 := Qoy r k (by simpa using h);have h2 : b.toNat < 256 := b.toNat_lt;rw [G4, Cx];omega
theorem Qfu (a b : Nat) (n m : Nat) (ha : a < 2 ^ n) (hb : b < 2 ^ m) (hn : n + m ≤ 64) :
  IntKind.u64.wrap (((BitVec.ofInt IntKind.u64.bits (a : Int) ||| BitVec.ofInt IntKind.u64.bits (IntKind.u64.wrap ((b : Int) * 2 ^ min n IntKind.u64.bits))).toNat : Nat) : Int) = ((a + 2 ^ n * b : Nat) : Int) := by
 have h64 : IntKind.u64.bits = 64 := rfl
 have hw : ∀ z : Int, IntKind.u64.wrap z = z % 18446744073709551616 := fun z => by simp [IntKind.wrap, IntKind.bits, IntKind.signed]
 have hnn : min n 64 = n := by omega
 have hp : 2 ^ n * b < 2 ^ 64 := by
  calc 2 ^ n * b < 2 ^ n * 2 ^ m := Nat.mul_lt_mul_of_pos_left hb (Nat.two_pow_pos n)
   _ = 2 ^ (n + m) := (Nat.pow_add 2 n m).symm
   _ ≤ 2 ^ 64 := Ce (by omega) hn
 have ha64 : a < 2 ^ 64 := Mx ha (Ce (by omega) (by omega))
 have e1 : ((b : Int) * 2 ^ n) = ((2 ^ n * b : Nat) : Int) := by push_cast; exact Int.mul_comm _ _
 rw [h64, hnn, e1, hw, hw]
 have e2 : ((2 ^ n * b : Nat) : Int) % 18446744073709551616 = ((2 ^ n * b : Nat) : Int) := by
  rw [Int.emod_eq_of_lt (by omega) (by have : (2 : Nat) ^ 64 = 18446744073709551616 := rfl; omega)]
 rw [e2, BitVec.ofInt_natCast, BitVec.ofInt_natCast, BitVec.toNat_or, BitVec.toNat_ofNat, BitVec.toNat_ofNat, Mz ha64, Mz hp]
 have e3 : a ||| 2 ^ n * b = a + 2 ^ n * b := by
  have := Nat.shiftLeft_add_eq_or_of_lt ha b;rw [Nat.shiftLeft_eq, Bs] at this;rw [Nat.or_comm, ← this, Cs]
 rw [e3]
 have e4 : a + 2 ^ n * b < 18446744073709551616 := by
  have hb2 : b + 1 ≤ 2 ^ m := hb;have : 2 ^ n * (b + 1) ≤ 2 ^ n * 2 ^ m := Nat.mul_le_mul_left _ hb2;rw [← Nat.pow_add] at this;have h5 : 2 ^ (n + m) ≤ 2 ^ 64 := Ce (by omega) hn;rw [Nat.mul_add, Nat.mul_one] at this;have : (2 : Nat) ^ 64 = 18446744073709551616 := rfl;omega
 rw [Int.emod_eq_of_lt (by omega) (by omega)]
theorem Qxq (b : UInt8) : IntKind.u64.wrap ((b.toNat : Nat) : Int) = ((b.toNat : Nat) : Int) := by
 have := b.toNat_lt;simp only [IntKind.wrap, IntKind.bits, IntKind.signed];simp;omega
theorem Z1f (N : Nat) (b0 b1 b2 b3 b4 b5 b6 b7 : UInt8) (r : List UInt8) : Qq N (b0 :: b1 :: b2 :: b3 :: b4 :: b5 :: b6 :: b7 :: r) = some (G4 [b0, b1, b2, b3, b4, b5, b6, b7] : Nat) := by
 have l0 := b0.toNat_lt; have l1 := b1.toNat_lt; have l2 := b2.toNat_lt; have l3 := b3.toNat_lt;have l4 := b4.toNat_lt; have l5 := b5.toNat_lt; have l6 := b6.toNat_lt; have l7 := b7.toNat_lt;show some _ = some _;simp only [orI, Gy, Qxq];have t8 : Int.toNat 8 = 8 := rfl;have t16 : Int.toNat 16 = 16 := rfl;have t24 : Int.toNat 24 = 24 := rfl;have t32 : Int.toNat 32 = 32 := rfl;have t40 : Int.toNat 40 = 40 := rfl;have t48 : Int.toNat 48 = 48 := rfl;have t56 : Int.toNat 56 = 56 := rfl;rw [t8, t16, t24, t32, t40, t48, t56];rw [Qfu b0.toNat b1.toNat 8 8 l0 l1 (by omega)];rw [Qfu _ b2.toNat 16 8 (by omega) l2 (by omega)];rw [Qfu _ b3.toNat 24 8 (by omega) l3 (by omega)];rw [Qfu _ b4.toNat 32 8 (by omega) l4 (by omega)];rw [Qfu _ b5.toNat 40 8 (by omega) l5 (by omega)];rw [Qfu _ b6.toNat 48 8 (by omega) l6 (by omega)];rw [Qfu _ b7.toNat 56 8 (by omega) l7 (by omega)];simp only [G4, Lc];omega
theorem Q5s (N : Nat) (s : List UInt8) (h : 8 ≤ s.length) : Qq N s = some ((G4 (s.take 8) : Nat) : Int) := by
 match s, h with
 | b0 :: b1 :: b2 :: b3 :: b4 :: b5 :: b6 :: b7 :: r, _ => exact Z1f N b0 b1 b2 b3 b4 b5 b6 b7 r
theorem Qk5 : ∀ (s : List UInt8) (m : Nat), m = G4 (List.replicate s.length 128) → (G4 s &&& m = 0 ↔ ∀ b ∈ s, b < 128)
 | [], m, h => by subst h; simp [G4]
 | b :: r, m, h => by
  have ih := Qk5 r _ rfl
  have hb0 : ∀ n, n < 256 → (n &&& 128 = 0 ↔ n < 128) := by decide
  have hb : ∀ c : UInt8, c.toNat &&& 128 = 0 ↔ c < 128 := fun c => (hb0 c.toNat c.toNat_lt).trans Iff.rfl;rw [Lj, Nz, G4] at h;generalize G4 (List.replicate r.length 128) = q at h ih;have e1 : (128 : UInt8).toNat = 128 := rfl;rw [e1] at h
  have key : ∀ z : Nat, z = 0 ↔ z % 2 ^ 8 = 0 ∧ z / 2 ^ 8 = 0 := fun z => by omega
  have hlt := b.toNat_lt;rw [G4, h, key, Nat.and_mod_two_pow, Nat.and_div_two_pow]
  have d1 : (b.toNat + 256 * G4 r) % 2 ^ 8 = b.toNat := by omega
  have d2 : (128 + 256 * q) % 2 ^ 8 = 128 := by omega
  have d3 : (b.toNat + 256 * G4 r) / 2 ^ 8 = G4 r := by omega
  have d4 : (128 + 256 * q) / 2 ^ 8 = q := by omega
  rw [d1, d2, d3, d4, hb, ih];simp
theorem Qpm (n : Nat) (h : n < 18446744073709551616) : IntKind.u64.wrap (n : Int) = n := by
 simp only [IntKind.wrap, IntKind.bits, IntKind.signed]
 simp; omega
theorem Qj9 (a b : Nat) (ha : a < 18446744073709551616) (hb : b < 18446744073709551616) : Jq .u64 (a : Int) (b : Int) = ((a &&& b : Nat) : Int) := by
 have hl : a &&& b ≤ a := Nat.and_le_left;have h64 : IntKind.u64.bits = 64 := rfl;have p64 : (2 : Nat) ^ 64 = 18446744073709551616 := rfl;simp only [Jq];rw [h64, BitVec.ofInt_natCast, BitVec.ofInt_natCast, BitVec.toNat_and, BitVec.toNat_ofNat, BitVec.toNat_ofNat, Mz (by omega), Mz (by omega), Qpm _ (by omega)]
theorem Qim (a b : Nat) (ha : a < 18446744073709551616) (hb : b < 18446744073709551616) : orI .u64 (a : Int) (b : Int) = ((a ||| b : Nat) : Int) ∧ (a ||| b) < 18446744073709551616 := by
 have h64 : IntKind.u64.bits = 64 := rfl;have p64 : (2 : Nat) ^ 64 = 18446744073709551616 := rfl
 have hl : a ||| b < 2 ^ 64 := Nat.or_lt_two_pow (by omega) (by omega)
 simp only [orI];rw [h64, BitVec.ofInt_natCast, BitVec.ofInt_natCast, BitVec.toNat_or, BitVec.toNat_ofNat, BitVec.toNat_ofNat, Mz (by omega), Mz (by omega), Qpm _ (by omega)];exact ⟨rfl, by omega⟩
theorem Qiq (a b m : Nat) : (a ||| b) &&& m = 0 ↔ a &&& m = 0 ∧ b &&& m = 0 := by
 rw [Nat.and_or_distrib_right];constructor
 ·intro h
  have h1 : a &&& m ≤ (a &&& m) ||| (b &&& m) := Nat.left_le_or
  have h2 : b &&& m ≤ (a &&& m) ||| (b &&& m) := Nat.right_le_or
  omega
 rintro ⟨h1, h2⟩; rw [h1, h2]; rfl
theorem Qaq (s : List UInt8) : G4 (s.take 8) < 18446744073709551616 := by
 have := Qoy (s.take 8) 8 (by simp; omega);simpa using this
def M8 : Nat := 9259542123273814144
theorem Z40 (s : List UInt8) (h : 8 ≤ s.length) : G4 (s.take 8) &&& M8 = 0 ↔ ∀ b ∈ s.take 8, b < 128 := Qk5 _ _ (by rw [Lz, Bc h]; rfl)
theorem Z0x (s : List UInt8) (h : 8 ≤ s.length) (hm : G4 (s.take 8) &&& M8 = 0) : J6 s = J6 (s.drop 8) := Qas 8 s ((Z40 s h).1 hm)
theorem Z4z (s : List UInt8) : (Jq .u64 ((G4 (s.take 8) : Nat) : Int) 9259542123273814144 = 0) = (G4 (s.take 8) &&& M8 = 0) := by
 have h1 := Qaq s;rw [show (9259542123273814144 : Int) = ((M8 : Nat) : Int) from rfl, Qj9 _ _ h1 (by decide)];apply propext; omega
theorem Z41 (s t : List UInt8) : (Jq .u64 (orI .u64 ((G4 (s.take 8) : Nat) : Int) ((G4 (t.take 8) : Nat) : Int)) 9259542123273814144 = 0) = (G4 (s.take 8) &&& M8 = 0 ∧ G4 (t.take 8) &&& M8 = 0) := by
 obtain ⟨h1, h2⟩ := Qim _ _ (Qaq s) (Qaq t);rw [h1, show (9259542123273814144 : Int) = ((M8 : Nat) : Int) from rfl, Qj9 _ _ h2 (by decide)];rw [← Qiq];apply propext; omega
theorem Z52 (s t u v : List UInt8) : (Jq .u64 (orI .u64 (orI .u64 ((G4 (s.take 8) : Nat) : Int) ((G4 (t.take 8) : Nat) : Int)) (orI .u64 ((G4 (u.take 8) : Nat) : Int) ((G4 (v.take 8) : Nat) : Int))) 9259542123273814144 = 0) =
  (G4 (s.take 8) &&& M8 = 0 ∧ G4 (t.take 8) &&& M8 = 0 ∧ G4 (u.take 8) &&& M8 = 0 ∧ G4 (v.take 8) &&& M8 = 0) := by
 obtain ⟨h1, h2⟩ := Qim _ _ (Qaq s) (Qaq t);obtain ⟨h3, h4⟩ := Qim _ _ (Qaq u) (Qaq v);obtain ⟨h5, h6⟩ := Qim _ _ h2 h4;rw [h1, h3, h5, show (9259542123273814144 : Int) = ((M8 : Nat) : Int) from rfl, Qj9 _ _ h6 (by decide)]
 rw [show (G4 (s.take 8) &&& M8 = 0 ∧ G4 (t.take 8) &&& M8 = 0 ∧ G4 (u.take 8) &&& M8 = 0 ∧ G4 (v.take 8) &&& M8 = 0) = ((G4 (s.take 8) ||| G4 (t.take 8) ||| (G4 (u.take 8) ||| G4 (v.take 8))) &&& M8 = 0) by
  rw [Qiq, Qiq, Qiq]; apply propext; simp only [and_assoc]]
 apply propext; omega
theorem Z2o (N : Nat) (k0 : List UInt8 → Option Bool) : ∀ (n : Nat) (s : List UInt8), s.length < n → (∀ t, t.length ≤ s.length → k0 t = some (J6 t)) → Zl N k0 n s = some (J6 s)
 | 0, s, h, _ => by omega
 | n + 1, s, h, hk => by
  simp only [Zl, Q3n, Qss, Z02, Nx, Lk, La, Lp, and_true]
  by_cases hl : (s.length : Int) > 32
  ·rw [if_pos hl, Q5s N s (by omega)];simp only [Li];rw [if_pos (by omega), Q5s N _ (by rw [Ma]; omega)];simp only [Li];rw [if_pos (by omega), Q5s N _ (by rw [Ma]; omega)];simp only [Li];rw [if_pos (by omega), Q5s N _ (by rw [Ma]; omega)];simp only [Li, Z52];split
   ·rename_i hm;obtain ⟨m1, m2, m3, m4⟩ := hm;rw [if_pos (by omega), Z2o N k0 n (s.drop 32) (by rw [Ma]; omega) (fun t ht => hk t (by rw [Ma] at ht; omega))];have e1 := Z0x s (by omega) m1;have e2 := Z0x (s.drop 8) (by rw [Ma]; omega) m2;rw [Mw] at e2;have e3 := Z0x (s.drop 16) (by rw [Ma]; omega) m3;rw [Mw] at e3;have e4 := Z0x (s.drop 24) (by rw [Ma]; omega) m4;rw [Mw] at e4;rw [e1, e2, e3, e4]
   exact hk s (Lp _)
  rw [if_neg hl]; exact hk s (Lp _)
def Qjx (n : Nat) : Nat := Go.Pinned.utf8FirstZ.getD n 0
theorem Z0v (n : Nat) (h : n < 256) : idx gtab0 (n : Int) = some (Qjx n : Int) := by
 have hl : Go.Pinned.utf8FirstZ.length = 256 := by rfl
 rw [Qak, gtab0, Ln, Qjx, Lf, Ld (by omega)];rfl
def Zdz (n : Nat) : Bool := (Qjx n == 241 && (decide (n < 194) || decide (244 < n))) || (Qjx n == 2 && decide (194 ≤ n) && decide (n ≤ 223)) || (Qjx n == 19 && n == 224) || (Qjx n == 3 && decide (225 ≤ n) && decide (n ≤ 239) && n != 237) || (Qjx n == 35 && n == 237) ||
  (Qjx n == 52 && n == 240) || (Qjx n == 4 && decide (241 ≤ n) && decide (n ≤ 243)) || (Qjx n == 68 && n == 244)
set_option maxRecDepth 100000 in
theorem Z0a : ((List.range 256).all fun n => decide (n < 128) || Zdz n) = true := by decide +kernel
theorem cls (n : Nat) (h : n < 256) (h2 : 128 ≤ n) : (Qjx n = 241 ∧ (n < 194 ∨ 244 < n)) ∨ (Qjx n = 2 ∧ 194 ≤ n ∧ n ≤ 223) ∨ (Qjx n = 19 ∧ n = 224) ∨ (Qjx n = 3 ∧ 225 ≤ n ∧ n ≤ 239 ∧ n ≠ 237) ∨ (Qjx n = 35 ∧ n = 237) ∨
  (Qjx n = 52 ∧ n = 240) ∨ (Qjx n = 4 ∧ 241 ≤ n ∧ n ≤ 243) ∨ (Qjx n = 68 ∧ n = 244) := by
 have := Lw.1 Z0a n (by simpa using h);simp only [Nd, decide_eq_true_eq] at this
 rcases this with h3 | h3
 ·omega
 simp only [Zdz, Nd, La, beq_iff_eq, decide_eq_true_eq, bne_iff_ne, ne_eq] at h3
 rcases h3 with ((((((h | h) | h) | h) | h) | h) | h) | h
 ·exact .inl h
 ·exact .inr (.inl ⟨h.1.1, h.1.2, h.2⟩)
 ·exact .inr (.inr (.inl h))
 ·exact .inr (.inr (.inr (.inl ⟨h.1.1.1, h.1.1.2, h.1.2, h.2⟩)))
 ·exact .inr (.inr (.inr (.inr (.inl h))))
 ·exact .inr (.inr (.inr (.inr (.inr (.inl h)))))
 ·exact .inr (.inr (.inr (.inr (.inr (.inr (.inl ⟨h.1.1, h.1.2, h.2⟩))))))
 exact .inr (.inr (.inr (.inr (.inr (.inr (.inr h))))))
theorem Z21 (N n : Nat) (c : UInt8) (r : List UInt8) (hc : c.toNat < 128) (_hn : r.length < n) (hN : r.length < N) (ih : ∀ t, t.length ≤ r.length → Q7 N n t = some (J6 t)) :
  Q7 N (n + 1) (c :: r) = some (J6 (c :: r)) := by
 have hstep : J6 (c :: r) = J6 r := Qas 1 (c :: r) (fun b hb => by simp at hb; subst hb; exact hc);rw [hstep];simp only [Q7, Q3n, Qss, Z02, Qk1, Nx, Lk, La, Lp, and_true];rw [if_pos (by simp only [Lj]; omega), show idx (c :: r) 0 = some c from rfl];simp only [Li];rw [if_pos (by omega), if_pos (by simp)];simp only [List.drop_one, List.tail_cons]
 by_cases h8 : (r.length : Int) > 8
 ·rw [if_pos h8, Q5s N r (by omega)];simp only [Li, Z4z];split
  ·rename_i hm;rw [Z0x r (by omega) hm, if_pos (by omega)];split
   ·rename_i h16;rw [Q5s N _ (by omega)];simp only [Li];rw [if_pos (by omega), Q5s N _ (by simp only [Ma] at h16 ⊢; omega)];simp only [Li, Z41];split
    ·rename_i hm2;rw [if_pos (by omega), Z2o N _ N _ (by simp only [Ma]; omega) (fun t ht => ih t (by simp only [Ma] at ht; omega))];rw [Z0x (r.drop 8) (by simp only [Ma] at h16 ⊢; omega) hm2.1, Z0x ((r.drop 8).drop 8) (by simp only [Ma] at h16 ⊢; omega) hm2.2, Mw (l := r.drop 8)]
    exact ih _ (by simp only [Ma]; omega)
   exact ih _ (by simp only [Ma]; omega)
  exact ih _ (Lp _)
 rw [if_neg h8]; exact ih _ (Lp _)
end
end Go.Av
namespace Go.Av
noncomputable section
open Go.Proofs
set_option maxRecDepth 100000
theorem Qr0 {s : List UInt8} {i lo hi : Nat} {b : UInt8} (h : s[i]? = some b) (h1 : lo ≤ b.toNat) (h2 : b.toNat ≤ hi) : inB s i lo hi = true := by simp [inB, h, h1, h2]
theorem Qea {s : List UInt8} {i lo hi : Nat} {b : UInt8} (h : s[i]? = some b) (h1 : ¬ (lo ≤ b.toNat ∧ b.toNat ≤ hi)) : inB s i lo hi = false := by simp only [inB, h, decide_eq_false h1]
theorem Qqu {s : List UInt8} {i lo hi : Nat} (h : s[i]? = none) : inB s i lo hi = false := by simp [inB, h]
theorem Z0b {X : List UInt8 → Option Bool} (c : UInt8) (r : List UInt8) (lo hi : Int) (lo' hi' : Nat) (e1 : lo = lo') (e2 : hi = hi') (hX : ∀ t, t.length ≤ r.length → X t = some (J6 t))
  (hcp : cpN (c :: r) = if inB (c :: r) 1 lo' hi' then 2 else 0) :
  (if ((c :: r).length : Int) < 2 then some false else (idx (c :: r) 1).bind fun b => if (b.toNat : Int) < lo then some false else (idx (c :: r) 1).bind fun b2 => if hi < (b2.toNat : Int) then some false else
   if 2 ≤ (c :: r).length then X ((c :: r).drop 2) else none) = some (J6 (c :: r)) := by
 subst e1 e2
 have bad : cpN (c :: r) = 0 → some false = some (J6 (c :: r)) := fun h => by rw [Qbf _ (by simp) h]
 match r, hX, hcp, bad with
 | [], hX, hcp, bad =>
  rw [if_pos (by simp)];exact bad (by rw [hcp, Qqu (by simp)]; rfl)
 | d :: t, hX, hcp, bad =>
  rw [if_neg (by simp only [Lj]; omega), show idx (c :: d :: t) 1 = some d from rfl];simp only [Li]
  by_cases h1 : (d.toNat : Int) < lo'
  ·rw [if_pos h1]; exact bad (by rw [hcp, Qea (b := d) rfl (by omega)]; rfl)
  rw [if_neg h1]
  by_cases h2 : (hi' : Int) < d.toNat
  ·rw [if_pos h2]; exact bad (by rw [hcp, Qea (b := d) rfl (by omega)]; rfl)
  rw [if_neg h2, if_pos (by simp)]
  have hc : cpN (c :: d :: t) = 2 := by rw [hcp, Qr0 (b := d) rfl (by omega) (by omega)]; rfl
  rw [Q9e _ 1 hc];exact hX _ (by simp)
theorem Qmh {X : List UInt8 → Option Bool} (c : UInt8) (r : List UInt8) (lo hi : Int) (lo' hi' : Nat) (e1 : lo = lo') (e2 : hi = hi') (hX : ∀ t, t.length ≤ r.length → X t = some (J6 t))
  (hcp : cpN (c :: r) = if inB (c :: r) 1 lo' hi' && inB (c :: r) 2 128 191 then 3 else 0) :
  (if ((c :: r).length : Int) < 3 then some false else (idx (c :: r) 1).bind fun b => if (b.toNat : Int) < lo then some false else (idx (c :: r) 1).bind fun b2 => if hi < (b2.toNat : Int) then some false else
   (idx (c :: r) 2).bind fun b3 => if (b3.toNat : Int) < 128 then some false else (idx (c :: r) 2).bind fun b4 => if 191 < (b4.toNat : Int) then some false else
   if 3 ≤ (c :: r).length then X ((c :: r).drop 3) else none) = some (J6 (c :: r)) := by
 subst e1 e2
 have bad : cpN (c :: r) = 0 → some false = some (J6 (c :: r)) := fun h => by rw [Qbf _ (by simp) h]
 match r, hX, hcp, bad with
 | [], hX, hcp, bad =>
  rw [if_pos (by simp)];exact bad (by rw [hcp, Qqu (by simp)]; rfl)
 | [d], hX, hcp, bad =>
  rw [if_pos (by simp)];exact bad (by rw [hcp, Qqu (i := 2) (by simp)]; simp)
 | d :: e :: t, hX, hcp, bad =>
  rw [if_neg (by simp only [Lj]; omega), show idx (c :: d :: e :: t) 1 = some d from rfl, show idx (c :: d :: e :: t) 2 = some e from rfl];simp only [Li]
  by_cases h1 : (d.toNat : Int) < lo'
  ·rw [if_pos h1]; exact bad (by rw [hcp, Qea (b := d) (i := 1) rfl (by omega)]; rfl)
  rw [if_neg h1]
  by_cases h2 : (hi' : Int) < d.toNat
  ·rw [if_pos h2]; exact bad (by rw [hcp, Qea (b := d) (i := 1) rfl (by omega)]; rfl)
  rw [if_neg h2]
  by_cases h3 : (e.toNat : Int) < 128
  ·rw [if_pos h3]; exact bad (by rw [hcp, Qea (b := e) (i := 2) rfl (by omega)]; simp)
  rw [if_neg h3]
  by_cases h4 : (191 : Int) < e.toNat
  ·rw [if_pos h4]; exact bad (by rw [hcp, Qea (b := e) (i := 2) rfl (by omega)]; simp)
  rw [if_neg h4, if_pos (by simp)]
  have hc : cpN (c :: d :: e :: t) = 3 := by rw [hcp, Qr0 (b := d) (i := 1) rfl (by omega) (by omega), Qr0 (b := e) (i := 2) rfl (by omega) (by omega)]; rfl
  rw [Q9e _ 2 hc];exact hX _ (by simp; omega)
theorem Qn4 {X : List UInt8 → Option Bool} (c : UInt8) (r : List UInt8) (lo hi : Int) (lo' hi' : Nat) (e1 : lo = lo') (e2 : hi = hi') (hX : ∀ t, t.length ≤ r.length → X t = some (J6 t))
  (hcp : cpN (c :: r) = if inB (c :: r) 1 lo' hi' && inB (c :: r) 2 128 191 && inB (c :: r) 3 128 191 then 4 else 0) :
  (if ((c :: r).length : Int) < 4 then some false else (idx (c :: r) 1).bind fun b => if (b.toNat : Int) < lo then some false else (idx (c :: r) 1).bind fun b2 => if hi < (b2.toNat : Int) then some false else
   (idx (c :: r) 2).bind fun b3 => if (b3.toNat : Int) < 128 then some false else (idx (c :: r) 2).bind fun b4 => if 191 < (b4.toNat : Int) then some false else
   (idx (c :: r) 3).bind fun b5 => if (b5.toNat : Int) < 128 then some false else (idx (c :: r) 3).bind fun b6 => if 191 < (b6.toNat : Int) then some false else
   if 4 ≤ (c :: r).length then X ((c :: r).drop 4) else none) = some (J6 (c :: r)) := by
 subst e1 e2
 have bad : cpN (c :: r) = 0 → some false = some (J6 (c :: r)) := fun h => by rw [Qbf _ (by simp) h]
 match r, hX, hcp, bad with
 | [], hX, hcp, bad =>
  rw [if_pos (by simp)];exact bad (by rw [hcp, Qqu (by simp)]; rfl)
 | [d], hX, hcp, bad =>
  rw [if_pos (by simp)];exact bad (by rw [hcp, Qqu (i := 2) (by simp)]; simp)
 | [d, e], hX, hcp, bad =>
  rw [if_pos (by simp)];exact bad (by rw [hcp, Qqu (i := 3) (by simp)]; simp)
 | d :: e :: f :: t, hX, hcp, bad =>
  rw [if_neg (by simp only [Lj]; omega), show idx (c :: d :: e :: f :: t) 1 = some d from rfl, show idx (c :: d :: e :: f :: t) 2 = some e from rfl, show idx (c :: d :: e :: f :: t) 3 = some f from rfl];simp only [Li]
  by_cases h1 : (d.toNat : Int) < lo'
  ·rw [if_pos h1]; exact bad (by rw [hcp, Qea (b := d) (i := 1) rfl (by omega)]; rfl)
  rw [if_neg h1]
  by_cases h2 : (hi' : Int) < d.toNat
  ·rw [if_pos h2]; exact bad (by rw [hcp, Qea (b := d) (i := 1) rfl (by omega)]; rfl)
  rw [if_neg h2]
  by_cases h3 : (e.toNat : Int) < 128
  ·rw [if_pos h3]; exact bad (by rw [hcp, Qea (b := e) (i := 2) rfl (by omega)]; simp)
  rw [if_neg h3]
  by_cases h4 : (191 : Int) < e.toNat
  ·rw [if_pos h4]; exact bad (by rw [hcp, Qea (b := e) (i := 2) rfl (by omega)]; simp)
  rw [if_neg h4]
  by_cases h5 : (f.toNat : Int) < 128
  ·rw [if_pos h5]; exact bad (by rw [hcp, Qea (b := f) (i := 3) rfl (by omega)]; simp)
  rw [if_neg h5]
  by_cases h6 : (191 : Int) < f.toNat
  ·rw [if_pos h6]; exact bad (by rw [hcp, Qea (b := f) (i := 3) rfl (by omega)]; simp)
  rw [if_neg h6, if_pos (by simp)]
  have hc : cpN (c :: d :: e :: f :: t) = 4 := by rw [hcp, Qr0 (b := d) (i := 1) rfl (by omega) (by omega), Qr0 (b := e) (i := 2) rfl (by omega) (by omega), Qr0 (b := f) (i := 3) rfl (by omega) (by omega)]; rfl
  rw [Q9e _ 3 hc];exact hX _ (by simp; omega)
theorem Z3i : ∀ (N n : Nat) (s : List UInt8), s.length < n → s.length < N → Q7 N n s = some (J6 s)
 | N, 0, s, h, _ => by omega
 | N, n + 1, [], h1, h2 => by simp [Q7, Q3n, Qtl]
 | N, n + 1, c :: r, h1, h2 => by
  have h1 : r.length < n := by simp at h1; omega
  have h2 : r.length < N := by simp at h2; omega
  have ih : ∀ t : List UInt8, t.length ≤ r.length → Q7 N n t = some (J6 t) := fun t ht => Z3i N n t (by omega) (by omega)
  by_cases hc : c.toNat < 128
  ·exact Z21 N n c r hc h1 h2 ih
  have hlt := c.toNat_lt;simp only [Q7, Q3n, Qss, Z02, Qk1, Nx, Lk, La, Lp, and_true];rw [if_pos (by simp only [Lj]; omega), show idx (c :: r) 0 = some c from rfl];simp only [Li];rw [if_neg (by omega), Z0v _ hlt];simp only [Li]
  rcases cls c.toNat hlt (by omega) with ⟨e, h⟩ | ⟨e, h⟩ | ⟨e, h⟩ | ⟨e, h⟩ | ⟨e, h⟩ | ⟨e, h⟩ | ⟨e, h⟩ | ⟨e, h⟩
  ·rw [e, show (idx gtab1 (Q4m .u8 ((241 : Nat) : Int) 4)) = some (0, 0) from by decide];simp only [Li];rw [if_neg (by decide), if_neg (by decide), if_neg (by decide), Qbf _ (by simp) (by simp only [cpN]; rw [if_neg hc, if_neg (by omega), if_neg (by omega), if_neg (by omega), if_neg (by omega), if_neg (by omega), if_neg (by omega), if_neg (by omega)])]
  ·rw [e, show (idx gtab1 (Q4m .u8 ((2 : Nat) : Int) 4)) = some (128, 191) from by decide];simp only [Li];rw [if_pos (by decide)];exact Z0b c r 128 191 128 191 rfl rfl ih (by simp only [cpN]; rw [if_neg hc, if_pos h])
  ·rw [e, show (idx gtab1 (Q4m .u8 ((19 : Nat) : Int) 4)) = some (160, 191) from by decide];simp only [Li];rw [if_neg (by decide), if_pos (by decide)];exact Qmh c r 160 191 160 191 rfl rfl ih (by simp only [cpN]; rw [if_neg hc, if_neg (by omega), if_pos h])
  ·rw [e, show (idx gtab1 (Q4m .u8 ((3 : Nat) : Int) 4)) = some (128, 191) from by decide];simp only [Li];rw [if_neg (by decide), if_pos (by decide)];exact Qmh c r 128 191 128 191 rfl rfl ih (by simp only [cpN]; rw [if_neg hc, if_neg (by omega), if_neg (by omega), if_neg (by omega), if_pos (by omega)])
  ·rw [e, show (idx gtab1 (Q4m .u8 ((35 : Nat) : Int) 4)) = some (128, 159) from by decide];simp only [Li];rw [if_neg (by decide), if_pos (by decide)];exact Qmh c r 128 159 128 159 rfl rfl ih (by simp only [cpN]; rw [if_neg hc, if_neg (by omega), if_neg (by omega), if_pos h])
  ·rw [e, show (idx gtab1 (Q4m .u8 ((52 : Nat) : Int) 4)) = some (144, 191) from by decide];simp only [Li];rw [if_neg (by decide), if_neg (by decide), if_pos (by decide)];exact Qn4 c r 144 191 144 191 rfl rfl ih (by simp only [cpN]; rw [if_neg hc, if_neg (by omega), if_neg (by omega), if_neg (by omega), if_neg (by omega), if_pos h])
  ·rw [e, show (idx gtab1 (Q4m .u8 ((4 : Nat) : Int) 4)) = some (128, 191) from by decide];simp only [Li];rw [if_neg (by decide), if_neg (by decide), if_pos (by decide)];exact Qn4 c r 128 191 128 191 rfl rfl ih (by simp only [cpN]; rw [if_neg hc, if_neg (by omega), if_neg (by omega), if_neg (by omega), if_neg (by omega), if_neg (by omega), if_pos h])
  rw [e, show (idx gtab1 (Q4m .u8 ((68 : Nat) : Int) 4)) = some (128, 143) from by decide];simp only [Li];rw [if_neg (by decide), if_neg (by decide), if_pos (by decide)];exact Qn4 c r 128 143 128 143 rfl rfl ih (by simp only [cpN]; rw [if_neg hc, if_neg (by omega), if_neg (by omega), if_neg (by omega), if_neg (by omega), if_neg (by omega), if_neg (by omega), if_pos h])
theorem Qgz (N : Nat) (s : List UInt8) (h : s.length < N) : Ws N s = some (J6 s) := Z3i N N s h h
end
end Go.Av
namespace Go.Av
noncomputable section
open Go.Proofs
set_option maxRecDepth 100000
def okU (n : Int) : Prop := 0 ≤ n ∧ n < 18446744073709551616
theorem Qr8 (k : Int) : (Qe4 k).length ≤ 4 := by
 by_cases h : k < 1 ∨ 25 < k
 ·rw [Qhv k h]; simp
 have hall : ((List.range 26).all fun k => decide ((Qe4 k).length ≤ 4)) = true := by decide +kernel
 have := Lw.1 hall k.toNat (by simp; omega);rw [show ((k.toNat : Nat) : Int) = k by omega] at this;simpa using this
end
end Go.Av
namespace Go.Av
noncomputable section
open Go.Proofs
set_option maxRecDepth 100000
abbrev Z6d (s : List UInt8) : Prop := s.length < 4611686018427387904
end
end Go.Av
namespace Go.Av
noncomputable section
open Go.Proofs
set_option maxRecDepth 100000
def Z25 (code : Int) (t : Int × Int × Int × Bool × Bool) : Bool :=
 decide (t.1 = code) && decide (1 ≤ t.2.1 ∧ t.2.1 ≤ 25) && (t.2.2.2.2 == decide (22 ≤ t.2.1)) &&
 (t.2.2.2.2 || (if t.2.2.2.1 then decide ((t.2.2.1 = 1 ∨ t.2.2.1 = 4) ∧ 19 ≤ t.2.1 ∧ t.2.1 ≤ 21 ∧ t.1 ≠ 65)
  else if t.2.2.1 = 16 then decide ((t.2.1 = 15 ∨ t.2.1 = 18) ∧ t.1 ≠ 65)
  else decide (Qcq t.2.1 = false) && decide (t.2.2.1 = 0 ∨ t.2.2.1 = 1 ∨ t.2.2.1 = 2 ∨ t.2.2.1 = 4 ∨ t.2.2.1 = 8) &&
   decide (t.1 = 65 → t.2.2.1 = 0 ∧ t.2.1 = 2) && decide (t.2.2.1 = 1 → (Q8o t.2.1).1 ≤ 8 → (Q8o t.2.1).2 = false ∨ (Q8o t.2.1).1 = 8) && decide (2 ≤ t.2.2.1 → (Q8o t.2.1).1 = 8 * t.2.2.1)))
theorem Qus : ((List.range 40).all fun k => Z25 (Q4b k) (Q1v k)) = true := by decide +kernel
structure Well (code : Int) (c : Q8m) : Prop where
 code : c.Code = code
 kind : 1 ≤ c.Kind ∧ c.Kind ≤ 25
 items : c.Items = decide (22 ≤ c.Kind)
 sized : c.Items = false → c.Sized = true → (c.Width = 1 ∨ c.Width = 4) ∧ 19 ≤ c.Kind ∧ c.Kind ≤ 21 ∧ c.Code ≠ 65
 wide : c.Items = false → c.Sized = false → c.Width = 16 → (c.Kind = 15 ∨ c.Kind = 18) ∧ c.Code ≠ 65
 num : c.Items = false → c.Sized = false → c.Width ≠ 16 → Qcq c.Kind = false ∧ (c.Width = 0 ∨ c.Width = 1 ∨ c.Width = 2 ∨ c.Width = 4 ∨ c.Width = 8) ∧ (c.Code = 65 → c.Width = 0 ∧ c.Kind = 2) ∧ (2 ≤ c.Width → (Q8o c.Kind).1 = 8 * c.Width)
theorem Z3k (code : Int) (h : ofB code = true) : Well code (ofS code) := by
 have h1 : bsI code < 40 ∧ Q4b (bsI code) = code := by simpa [ofB] using h
 have hw := Lw.1 Qus (bsI code) (by simpa using h1.1);rw [h1.2] at hw
 have e : ofT code = Q1v (bsI code) := by unfold ofT; rw [if_pos h]
 rw [← e] at hw;have es : ofS code = ⟨(ofT code).1, (ofT code).2.1, (ofT code).2.2.1, (ofT code).2.2.2.1, (ofT code).2.2.2.2⟩ := rfl;rw [es];generalize ofT code = t at hw;obtain ⟨c, k, w, s, i⟩ := t;simp only [Z25, La, decide_eq_true_eq, beq_iff_eq] at hw;obtain ⟨⟨⟨h1, h2⟩, h3⟩, h4⟩ := hw;refine ⟨h1, h2, h3, ?_, ?_, ?_⟩ <;> intro hi hs <;> simp only at hi hs
 ·rw [hi, hs] at h4;simpa using h4
 ·intro hw16
  simp only at hw16
  rw [hi, hs, if_pos hw16] at h4;simpa using h4
 intro hw16
 simp only at hw16
 rw [hi, hs, if_neg hw16] at h4;simp only [Bw, La, decide_eq_true_eq, Lm, if_false] at h4;exact ⟨h4.1.1.1.1, h4.1.1.1.2, h4.1.1.2, h4.2⟩
theorem Qek {v : Q0} (h : Q7z v = 0) : 1 ≤ v.Kind ∧ v.Kind ≤ 21 ∧ Qmy v.Kind v.N' = true ∧ v.Items = [] ∧ (Qcq v.Kind = false → v.Text = []) ∧ (v.Kind = 15 ∨ v.Kind = 18 → v.Text.length = 16) ∧ v.Text.length ≤ 1048576 := by
 unfold Q7z at h;split at h
 ·omega
 split at h
 ·omega
 rename_i h1 h2
 have hi : v.Items = [] := by
  apply Mb;intro hn; exact h2 (.inr hn)
 have ho : Qmy v.Kind v.N' = true := by
  cases ho : Qmy v.Kind v.N' with
  | true => rfl
  | false => exact absurd (.inl ho) h2
 split at h
 ·split at h
  ·omega
  rename_i h3 h4
  have ht : v.Text = [] := by
   apply Mb;intro hn; exact h4 hn
  refine ⟨by omega, by omega, ho, hi, fun _ => ht, fun hk => ?_, by rw [ht]; simp⟩
  rcases hk with hk | hk <;> rw [hk] at h3 <;> cases h3
 split at h
 ·omega
 split at h
 ·omega
 rename_i h3 h4 h5
 exact ⟨by omega, by omega, ho, hi, fun ht => absurd ht h3, fun hk => by
  apply Mb
  intro hn; exact h4 ⟨hk, hn⟩, by omega⟩
theorem Ql6 {k n : Int} (h : Qcq k = true) (hn : Qmy k n = true) (h0 : 0 ≤ n) : n = 0 := by
 unfold Qcq at h;simp only [decide_eq_true_eq] at h
 have hb : Q8o k = (0, false) := by
  rcases h with rfl | rfl | rfl | rfl | rfl <;> rfl
 simp only [Qmy, La, hb, Qk8, Lm, if_false, decide_eq_true_eq] at hn;have := hn.1;simp at this;omega
theorem Qtq {c : Q8m} {n : Int} {w : Nat} (hw : c.Width = w) (h148 : w = 1 ∨ w = 2 ∨ w = 4 ∨ w = 8) (hn : okU n) (hf : Qk8 n (8 * w) (Q8o c.Kind).2 = true) : Q8a c ((n.toNat % 256 ^ w : Nat) : Int) = n := by
 obtain ⟨h0, h1⟩ := hn;unfold Q8a;unfold Qk8 s64 at hf;cases hs : (Q8o c.Kind).2
 ·rw [hs] at hf;simp only [Lm, if_false, decide_eq_true_eq] at hf;simp only [Lm, false_and, if_false]
  rcases h148 with rfl | rfl | rfl | rfl <;> simp at hf ⊢ <;> omega
 rw [hs] at hf;simp only [if_true, decide_eq_true_eq] at hf;simp only [true_and, hw]
 rcases h148 with rfl | rfl | rfl | rfl <;> simp at hf ⊢ <;> split at hf <;> (try split) <;> omega
theorem Qu4 {c : Q8m} {n w : Nat} (hw : c.Width = w) (h148 : w = 1 ∨ w = 2 ∨ w = 4 ∨ w = 8) (hn : n < 256 ^ w) : okU (Q8a c n) ∧ (Q8a c n).toNat % 256 ^ w = n ∧ Qk8 (Q8a c n) (8 * w) (Q8o c.Kind).2 = true := by
 unfold Q8a okU Qk8 s64;cases hs : (Q8o c.Kind).2
 ·simp only [Lm, false_and, if_false]
  rcases h148 with rfl | rfl | rfl | rfl <;> simp at hn ⊢ <;> omega
 simp only [true_and, hw, if_true]
 rcases h148 with rfl | rfl | rfl | rfl <;> simp at hn ⊢ <;> split <;> refine ⟨by omega, by omega, ?_⟩ <;> (try split) <;> omega
end
end Go.Av
namespace Go.Av
noncomputable section
open Go.Proofs
set_option maxRecDepth 100000
theorem Qj6 {code : Int} {v : Q0} (h : Qgm code v = true) : ofB code = true ∧ (ofS code).Kind = v.Kind ∧ Q7z v = 0 ∧ Qda (ofS code) v = true := by
 simp only [Qgm, La, decide_eq_true_eq] at h;exact ⟨h.1.1.1, h.1.1.2, h.1.2, h.2⟩
theorem Z45 : okU 0 := ⟨by decide, by decide⟩
theorem Zit : okU 1 := ⟨by decide, by decide⟩
inductive Z4s (c : Q8m) : Prop
 | sized (w : Nat) (hs : c.Sized = true) (hw : c.Width = w) (h : w = 1 ∨ w = 4) (hk : 19 ≤ c.Kind ∧ c.Kind ≤ 21) (hc : c.Code ≠ 65)
 | wide (hs : c.Sized = false) (hw : c.Width = 16) (hk : c.Kind = 15 ∨ c.Kind = 18) (hc : c.Code ≠ 65)
 | num (w : Nat) (hs : c.Sized = false) (hw : c.Width = w) (h : w = 0 ∨ w = 1 ∨ w = 2 ∨ w = 4 ∨ w = 8) (ht : Qcq c.Kind = false) (hc : c.Code = 65 → w = 0 ∧ c.Kind = 2) (hb : 2 ≤ w → (Q8o c.Kind).1 = 8 * w)
theorem Well.shape {code : Int} {c : Q8m} (h : Well code c) (hi : c.Items = false) : Z4s c := by
 cases hs : c.Sized with
 | true =>
  obtain ⟨h1, h2, h3, h4⟩ := h.sized hi hs
  rcases h1 with h1 | h1
  ·exact .sized 1 hs h1 (.inl rfl) ⟨h2, h3⟩ h4
  exact .sized 4 hs h1 (.inr rfl) ⟨h2, h3⟩ h4
 | false =>
  by_cases h16 : c.Width = 16
  ·obtain ⟨h1, h2⟩ := h.wide hi hs h16;exact .wide hs h16 h1 h2
  obtain ⟨h1, h2, h3, h4⟩ := h.num hi hs h16
  have hw : c.Width = (c.Width.toNat : Nat) := by omega
  refine .num c.Width.toNat hs hw (by omega) h1 (fun hc => ?_) (fun hb => ?_)
  ·obtain ⟨q1, q2⟩ := h3 hc;exact ⟨by omega, q2⟩
  have := h4 (by omega);omega
theorem Qgo {code : Int} {c : Q8m} (h : Well code c) (hk : c.Kind ≤ 21) : c.Items = false := by
 rw [h.items];exact decide_eq_false (by omega)
end
end Go.Av
namespace Go.Av
noncomputable section
open Go.Proofs
set_option maxRecDepth 100000
theorem Q0.ext' {v w : Q0} (h1 : v.Kind = w.Kind) (h2 : v.N' = w.N') (h3 : v.Text = w.Text) (h4 : v.Items = w.Items) : v = w := by
 cases v; cases w; simp_all
theorem Qmi {k : Int} (h : 19 ≤ k ∧ k ≤ 21) : Qcq k = true := by
 unfold Qcq; exact decide_eq_true (by omega)
theorem Qqx {k : Int} (h : k = 15 ∨ k = 18) : Qcq k = true := by
 unfold Qcq; exact decide_eq_true (by omega)
theorem Qo5 {code : Int} {v : Q0} (hf : Qgm code v = true) : (Q6o (ofS code) v).length = (ofS code).Width.toNat + (if (ofS code).Sized then v.Text.length else 0) := by
 obtain ⟨f1, f2, f3, f4⟩ := Qj6 hf;obtain ⟨c1, c2, c3, c4, c5, c6, c7⟩ := Qek f3;have hw := Z3k code f1;have hi := Qgo hw (by omega);unfold Q6o
 cases hw.shape hi with
 | sized w hs hw' h12 hk hc => rw [hs]; simp [Q97]
 | wide hs hw' hk hc =>
  rw [hs, hw'];simp [c6 (by omega)]
 | num w hs hw' hh ht hc hbb =>
  rw [hs, hw'];simp only [Lm, if_false];rw [if_neg (by omega), Q97]; rfl
theorem Qvq {code : Int} {v : Q0} {w : Nat} (_hn : okU v.N') (hf : Qgm code v = true) (hs : (ofS code).Sized = false) (hw' : (ofS code).Width = w) (hh : w = 1 ∨ w = 2 ∨ w = 4 ∨ w = 8) (h65 : (ofS code).Code ≠ 65)
  (hbb : 2 ≤ w → (Q8o (ofS code).Kind).1 = 8 * w) : Qk8 v.N' (8 * w) (Q8o (ofS code).Kind).2 = true := by
 obtain ⟨f1, f2, f3, f4⟩ := Qj6 hf;obtain ⟨c1, c2, c3, c4, c5, c6, c7⟩ := Qek f3;unfold Qda at f4;rw [if_neg h65, hs, hw'] at f4;simp only [Lm, if_false] at f4;rw [if_neg (by omega)] at f4
 by_cases h1 : w = 1
 ·subst h1;rw [if_pos (by decide)] at f4;exact f4
 simp only [Qmy, La] at c3;have := c3.1;rw [← f2, hbb (by omega)] at this;exact this
theorem Z3d {code : Int} {v : Q0} (hn : okU v.N') (hf : Qgm code v = true) (s : List UInt8) : Z1j code (Q6o (ofS code) v ++ s) = (v, ((Q6o (ofS code) v).length : Int), 0) := by
 have hlen := Qo5 hf;obtain ⟨f1, f2, f3, f4⟩ := Qj6 hf;obtain ⟨c1, c2, c3, c4, c5, c6, c7⟩ := Qek f3;have hw := Z3k code f1;have hi := Qgo hw (by omega);have nf := fun w => Qvq (w := w) hn hf;unfold Z1j;rw [f1, hi, if_neg (by simp)];have hd : Q6o (ofS code) v = Q6o (ofS code) v := rfl;unfold Q6o at hd hlen ⊢
 cases hw.shape hi with
 | sized w hs hw' h12 hk hc =>
  simp only [hs, hw', if_true, Lt, List.append_assoc];have hbl := Q97 w v.Text.length;have e1 : (Qhp v.Text.length w ++ (v.Text ++ s)).take w = Qhp v.Text.length w := Br hbl;have e2 : (Qhp v.Text.length w ++ (v.Text ++ s)).drop w = v.Text ++ s := List.drop_left' hbl;have htx : Qcq v.Kind = true := Qmi (by omega);have hn0 := Ql6 htx c3 hn.1
  have e3 : v.Text.length % 256 ^ w = v.Text.length := by
   apply Mz;unfold Qda at f4;rw [if_neg hc, hs, if_pos rfl, hw'] at f4
   rcases h12 with rfl | rfl
   ·simp at f4; omega
   omega
  rw [e1, e2, Qen, e3, Br rfl];rw [if_neg (by simp [hbl]; omega), if_neg (by simp [hbl])];have ev : (⟨(ofS code).Kind, 0, v.Text, []⟩ : Q0) = v := Q0.ext' f2 hn0.symm rfl c4.symm;rw [ev, Qvj, if_pos f3];simp [hbl]
 | wide hs hw' hk hc =>
  simp only [hs, hw', Lm, if_false, if_true];have h16 := c6 (by omega);have htx : Qcq v.Kind = true := Qqx (by omega);have hn0 := Ql6 htx c3 hn.1;rw [if_neg (by simp [h16]; omega), Br h16];have ev : (⟨(ofS code).Kind, 0, v.Text, []⟩ : Q0) = v := Q0.ext' f2 hn0.symm rfl c4.symm;rw [ev, Qvj, if_pos f3];simp [h16]
 | num w hs hw' hh ht hc hbb =>
  simp only [hs, hw', Lm, if_false, Lt]
  have h16 : ¬ ((w : Int) = 16) := by omega
  have hbl := Q97 w v.N'.toNat;have ht0 := c5 (by rw [← f2]; exact ht);simp only [h16, if_false];rw [if_neg (by simp [hbl]; omega)]
  by_cases h65 : (ofS code).Code = 65
  ·obtain ⟨rfl, hk2⟩ := hc h65;rw [if_pos h65]
   have hn1 : v.N' = 1 := by
    unfold Qda at f4;rw [if_pos h65] at f4;simpa using f4
   have ev : (⟨(ofS code).Kind, 1, [], []⟩ : Q0) = v := Q0.ext' f2 hn1.symm ht0.symm c4.symm;rw [ev, Qvj, if_pos f3];simp [hbl]
  rw [if_neg h65, Br hbl, Qen]
  have e : Q8a (ofS code) ((v.N'.toNat % 256 ^ w : Nat) : Int) = v.N' := by
   rcases hh with rfl | hh
   ·unfold Qda at f4;rw [if_neg h65, hs, hw'] at f4;simp at f4;unfold Q8a;rw [if_neg (by omega), f4]; rfl
   exact Qtq hw' hh hn (nf w hs hw' hh h65 hbb)
  rw [e];have ev : (⟨(ofS code).Kind, v.N', [], []⟩ : Q0) = v := Q0.ext' f2 rfl ht0.symm c4.symm;rw [ev, Qvj, if_pos f3];simp [hbl]
end
end Go.Av
namespace Go.Av
noncomputable section
open Go.Proofs
set_option maxRecDepth 100000
theorem Qok {v x : Q0} {n m : Int} (h : Qvj v n = (x, m, 0)) : Q7z v = 0 ∧ x = v ∧ m = n := by
 unfold Qvj at h;split at h
 ·rename_i h0;cases h;exact ⟨h0, rfl, rfl⟩
 rename_i h0;simp only [Lh] at h;split at h <;> omega
theorem reads {code : Int} {s : List UInt8} {x : Q0} {n : Int} (hs : Z6d s) (h : Z1j code s = (x, n, 0)) : 0 ≤ n ∧ n ≤ s.length ∧ okU x.N' ∧ x.Text.length ≤ s.length ∧ Q7z x = 0 ∧ Qgm code x = true ∧ Q6o (ofS code) x = s.take n.toNat := by
 unfold Z1j at h;split at h
 ·cases h
 rename_i h1
 have hb : ofB code = true := by
  cases hb : ofB code with
  | true => rfl
  | false => exact absurd (.inl hb) h1
 have hi : (ofS code).Items = false := by
  cases hi : (ofS code).Items with
  | false => rfl
  | true => exact absurd (.inr hi) h1
 have hw := Z3k code hb;split at h
 ·cases h
 rename_i h2
 have fit : ∀ v : Q0, v.Kind = (ofS code).Kind → Q7z v = 0 → Qda (ofS code) v = true → Qgm code v = true := fun v q1 q2 q3 => by
  simp only [Qgm, hb, q1, q2, q3, decide_true, Bool.and_self]
 have hd : ∀ v, Q6o (ofS code) v = Q6o (ofS code) v := fun _ => rfl;unfold Z6d at hs
 cases hw.shape hi with
 | sized w hsz hw' h12 hk hc =>
  simp only [hsz, hw', if_true, Lt] at h;split at h
  ·cases h
  rename_i h3;obtain ⟨q1, rfl, rfl⟩ := Qok h
  have hlw : w ≤ s.length := by omega
  have hmlt := Qu1 (s.take w);rw [Lz, Bc hlw] at hmlt;have hbn := Qup (s.take w);rw [Lz, Bc hlw] at hbn;generalize hm : Qky (s.take w) = m at *
  have hlen : ((s.drop w).take m).length = m := by rw [Lz, Ma]; omega
  refine ⟨by omega, by omega, Z45, by simp only [hlen]; omega, q1, fit _ rfl q1 ?_, ?_⟩
  ·unfold Qda;rw [if_neg hc, hsz, if_pos rfl, hw']
   rcases h12 with rfl | rfl
   ·simp only [hlen];simp at hmlt;exact decide_eq_true (.inr (by omega))
   exact decide_eq_true (.inl rfl)
  unfold Q6o;simp only [hsz, if_true, hw', Lt, hlen, hbn];rw [show ((w : Int) + (m : Int)).toNat = w + m by omega, List.take_add]
 | wide hsz hw' hk hc =>
  simp only [hsz, hw', Lm, if_false, if_true] at h;obtain ⟨q1, rfl, rfl⟩ := Qok h;refine ⟨by omega, by omega, Z45, by simp only [Lz]; omega, q1, fit _ rfl q1 ?_, ?_⟩
  ·unfold Qda;rw [if_neg hc, hsz, hw']; rfl
  unfold Q6o;simp only [hsz, hw', Lm, if_false, if_true];rfl
 | num w hsz hw' hh ht hc hbb =>
  simp only [hsz, hw', Lm, if_false, Lt] at h;rw [if_neg (show ¬ ((w : Int) = 16) by omega)] at h;split at h
  ·rename_i h65;obtain ⟨rfl, hk2⟩ := hc h65;obtain ⟨q1, rfl, rfl⟩ := Qok h;refine ⟨by omega, by omega, Zit, by simp, q1, fit _ rfl q1 ?_, ?_⟩
   ·unfold Qda;rw [if_pos h65]; rfl
   unfold Q6o;simp only [hsz, hw', Lm, if_false];rfl
  rename_i h65;obtain ⟨q1, rfl, rfl⟩ := Qok h
  have hlw : w ≤ s.length := by omega
  have hlt := Qu1 (s.take w);have hbn := Qup (s.take w);rw [Lz, Bc hlw] at hlt hbn
  rcases hh with rfl | hh
  ·have e0 : Q8a (ofS code) (Qky (s.take 0) : Nat) = 0 := by
    unfold Q8a;rw [if_neg (by omega)]; rfl
   rw [e0] at q1 ⊢;refine ⟨by omega, by omega, Z45, by simp, q1, fit _ rfl q1 ?_, ?_⟩
   ·unfold Qda;rw [if_neg h65, hsz, hw']; rfl
   unfold Q6o;simp only [hsz, hw', Lm, if_false];rfl
  obtain ⟨w1, w2, w3⟩ := Qu4 hw' hh hlt;refine ⟨by omega, by omega, w1, by simp, q1, fit _ rfl q1 ?_, ?_⟩
  ·unfold Qda;rw [if_neg h65, hsz, hw'];simp only [Lm, if_false];rw [if_neg (by omega)];split
   ·rename_i h1
    have : w = 1 := by omega
    subst this;exact w3
   rfl
  unfold Q6o;simp only [hsz, hw', Lm, if_false, Lt];rw [if_neg (by omega), ← Qog, w2, hbn]
end
end Go.Av
namespace Go.Av
noncomputable section
open Go.Proofs
set_option maxRecDepth 100000
end
end Go.Av
namespace Go.Av
noncomputable section
open Go.Proofs
set_option maxRecDepth 100000
theorem kinds {k : Int} (h : 1 ≤ k ∧ k ≤ 21) : k = 1 ∨ k = 2 ∨ k = 3 ∨ k = 4 ∨ k = 5 ∨ k = 6 ∨ k = 7 ∨ k = 8 ∨ k = 9 ∨ k = 10 ∨ k = 11 ∨ k = 12 ∨ k = 13 ∨ k = 14 ∨ k = 15 ∨ k = 16 ∨ k = 17 ∨ k = 18 ∨ k = 19 ∨ k = 20 ∨ k = 21 := by omega
end
end Go.Av
namespace Go.Av
noncomputable section
open Go.Proofs
set_option maxRecDepth 100000
def Qth (k : Nat) : Bool := (Q1v k).2.2.2.2 || (Q1v k).2.2.2.1 || !decide ((Q1v k).2.2.1 = 1) || decide (((Q1v k).1 = 80 ∧ (Q1v k).2.1 = 3) ∨ ((Q1v k).1 = 81 ∧ (Q1v k).2.1 = 7) ∨ ((Q1v k).1 = 82 ∧ (Q1v k).2.1 = 5) ∨ ((Q1v k).1 = 83 ∧ (Q1v k).2.1 = 6) ∨ ((Q1v k).1 = 84 ∧ (Q1v k).2.1 = 9) ∨ ((Q1v k).1 = 85 ∧ (Q1v k).2.1 = 10) ∨ ((Q1v k).1 = 86 ∧ (Q1v k).2.1 = 2))
theorem Qqf : ((List.range 40).all Qth) = true := by decide +kernel
theorem Z34 {P : Int × Int × Int × Bool × Bool → Prop} {B : Nat → Bool} (hB : ((List.range 40).all B) = true) (hP : ∀ k, B k = true → P (Q1v k)) {code : Int} (h : ofB code = true) : P (ofT code) := by
 have h1 : bsI code < 40 ∧ Q4b (bsI code) = code := by simpa [ofB] using h
 have := Lw.1 hB (bsI code) (by simpa using h1.1)
 have e : ofT code = Q1v (bsI code) := by unfold ofT; rw [if_pos h]
 rw [e]; exact hP _ this
theorem Zff {code : Int} (h : ofB code = true) (hi : (ofS code).Items = false) (hs : (ofS code).Sized = false) (hw : (ofS code).Width = 1) :
  (code = 80 ∧ (ofS code).Kind = 3) ∨ (code = 81 ∧ (ofS code).Kind = 7) ∨ (code = 82 ∧ (ofS code).Kind = 5) ∨ (code = 83 ∧ (ofS code).Kind = 6) ∨ (code = 84 ∧ (ofS code).Kind = 9) ∨ (code = 85 ∧ (ofS code).Kind = 10) ∨ (code = 86 ∧ (ofS code).Kind = 2) := by
 have hc := (Z3k code h).code
 have := Z34 (P := fun t => t.2.2.2.2 = false → t.2.2.2.1 = false → t.2.2.1 = 1 → (t.1 = 80 ∧ t.2.1 = 3) ∨ (t.1 = 81 ∧ t.2.1 = 7) ∨ (t.1 = 82 ∧ t.2.1 = 5) ∨ (t.1 = 83 ∧ t.2.1 = 6) ∨ (t.1 = 84 ∧ t.2.1 = 9) ∨ (t.1 = 85 ∧ t.2.1 = 10) ∨ (t.1 = 86 ∧ t.2.1 = 2)) Qqf (fun k hk h1 h2 h3 => by
  simp only [Qth, h1, h2, h3, Bw, decide_true, Bm, decide_eq_true_eq] at hk
  exact hk) h
 have h2 := this hi hs hw;have hc' : (ofT code).1 = code := hc;rw [hc'] at h2;exact h2
end
end Go.Av
namespace Go.Av
noncomputable section
open Go.Proofs
set_option maxRecDepth 100000
end
end Go.Av
namespace Go.Av
noncomputable section
open Go.Proofs
set_option maxRecDepth 100000
theorem Qz5 {P : Q0 → Prop} (h : ∀ v, (∀ x ∈ v.Items, P x) → P v) : ∀ (n : Nat) (v : Q0), v.sz ≤ n → P v
 | 0, v, hn => by have := v.sz_eq; omega
 | n + 1, v, hn => h v (fun x hx => Qz5 h n x (by have := v.sz_eq; have := Q0.szs_mem _ x hx; omega))
theorem Q0.ind {P : Q0 → Prop} (h : ∀ v, (∀ x ∈ v.Items, P x) → P v) (v : Q0) : P v := Qz5 h v.sz v (Lp _)
theorem Qpe {R : Q0 → Q0 → Option Bool} {N : Nat} {a b : Q0} (hlen : a.Items.length = b.Items.length) (hb : a.Items.length < 4611686018427387904)
  (hR : ∀ y ∈ a.Items, ∀ z, R y z = some (decide (y = z))) : ∀ (n i : Nat), i ≤ a.Items.length → a.Items.length - i < n →
  We R N a b n (i : Int) = some (decide (a.Items.drop i = b.Items.drop i))
 | 0, i, _, h => by omega
 | n + 1, i, h1, h2 => by
  simp only [We, Q3n, Qk1, Q2y]
  by_cases hi : i < a.Items.length
  ·rw [if_pos (by omega), Qak, Qak, Ld hi, Ld (show i < b.Items.length by omega)];simp only [Li, hR _ (Mf hi)];rw [Qbe _ (by omega)];have ih := Qpe (N := N) hlen hb hR n (i + 1) (by omega) (by omega);rw [No hi, No (show i < b.Items.length by omega)]
   by_cases he : a.Items[i] = b.Items[i]
   ·rw [← he]; simp only [decide_true, Bm, Lm, if_false, Ca, true_and]
    exact_mod_cast ih
   have hne : ¬ (a.Items[i] :: List.drop (i + 1) a.Items = b.Items[i] :: List.drop (i + 1) b.Items) := fun e => he (List.cons.inj e).1;simp only [he, decide_false, Bool.not_false, if_true];rw [decide_eq_false hne]
  rw [if_neg (by omega), Mr (by omega), Mr (by omega)];simp
theorem Qvc : ∀ (N : Nat) (a b : Q0), a.sz < N → a.sz < 1000000000 → Uh N a b = some (decide (a = b))
 | 0, a, b, h, _ => by have := a.sz_eq; omega
 | N + 1, a, b, h, h2 => by
  have hs := a.sz_eq;have hl := Q0.szs_len a.Items;simp only [Uh, Q2n, Q3n, Z3e, Qq2, Q2y]
  by_cases e1 : a.Kind = b.Kind
  ·by_cases e2 : a.N' = b.N'
   ·by_cases e3 : a.Text = b.Text
    ·by_cases e4 : a.Items.length = b.Items.length
     ·rw [if_neg (by simp [e1]), if_neg (by simp [e2]), if_neg (by simp [e3]), if_neg (by simp [e4])];have := Qpe (N := N) (R := Uh N) e4 (by omega) (fun y hy z => Qvc N y z (by have := Q0.szs_mem _ y hy; omega) (by have := Q0.szs_mem _ y hy; omega)) N 0 (by omega) (by omega);rw [show (0 : Int) = ((0 : Nat) : Int) from rfl, this];cases a; cases b; simp_all
     rw [if_neg (by simp [e1]), if_neg (by simp [e2]), if_neg (by simp [e3]), if_pos (by omega)];have : a ≠ b := fun e => e4 (by rw [e]);simp [this]
    rw [if_neg (by simp [e1]), if_neg (by simp [e2]), if_pos (by simpa using e3)];have : a ≠ b := fun e => e3 (by rw [e]);simp [this]
   rw [if_neg (by simp [e1]), if_pos (by simpa using e2)];have : a ≠ b := fun e => e2 (by rw [e]);simp [this]
  rw [if_pos (by simpa using e1)];have : a ≠ b := fun e => e1 (by rw [e]);simp [this]
end
end Go.Av
namespace Go.Av
noncomputable section
open Go.Proofs
set_option maxRecDepth 100000
open Classical in
open Classical in
open Classical in
inductive Fine : Q0 → Prop
 | mk (v : Q0) (hn : okU v.N') (ht : v.Text.length ≤ 300000) (hi : ∀ x ∈ v.Items, Fine x) : Fine v
theorem Fine.num {v : Q0} (h : Fine v) : okU v.N' := by cases h; assumption
theorem Fine.text {v : Q0} (h : Fine v) : v.Text.length ≤ 300000 := by cases h; assumption
theorem Fine.items {v : Q0} (h : Fine v) : ∀ x ∈ v.Items, Fine x := by cases h; assumption
theorem Qiu : ∀ (l : List Q0), Q0.txts l → ∀ x ∈ l, x.txt
 | v :: l, h, x, hx => by
  simp only [Q0.txts] at h
  rcases Mj.1 hx with rfl | hx
  ·exact h.1
  exact Qiu l h.2 x hx
theorem Qzs (v : Q0) (hv : OkV v) (ht : v.txt) : Fine v := by
 induction v using Q0.ind with
 | h v ih =>
  rw [Q0.txt_eq] at ht;exact .mk v hv.num (by omega) (fun x hx => ih x hx (hv.items x hx) (Qiu _ ht.2 x hx))
end
end Go.Av
namespace Go.Av
noncomputable section
open Go.Proofs
set_option maxRecDepth 100000
end
end Go.Av
namespace Go.Av
noncomputable section
open Go.Proofs
set_option maxRecDepth 100000
end
end Go.Av
namespace Go.Av
noncomputable section
open Go.Proofs
set_option maxRecDepth 100000
end
end Go.Av
namespace Go.Av
noncomputable section
open Go.Proofs
set_option maxRecDepth 100000
end
end Go.Av
namespace Go.Av
noncomputable section
open Go.Proofs
set_option maxRecDepth 100000
theorem Zk8 {code : Int} {v : Q0} {k : Nat} (hf : Qgm code v = true) (hk : k < (Q6o (ofS code) v).length) : Z1j code ((Q6o (ofS code) v).take k) = (Qur, 0, 3) := by
 have hlen := Qo5 hf;obtain ⟨f1, f2, f3, f4⟩ := Qj6 hf;obtain ⟨c1, c2, c3, c4, c5, c6, c7⟩ := Qek f3;have hw := Z3k code f1;have hi := Qgo hw (by omega)
 have hw0 : ((Q6o (ofS code) v).take k).length = k := by rw [Lz]; omega
 unfold Z1j;rw [f1, hi, if_neg (by simp), hw0];split
 ·rfl
 rename_i hkw
 cases hw.shape hi with
 | sized w hs hw' h12 hk2 hc =>
  simp only [hs, hw', if_true, Lt] at hlen hkw ⊢
  have hkw : w ≤ k := by omega
  have e1 : ((Q6o (ofS code) v).take k).take w = Qhp v.Text.length w := by
   rw [List.take_take, Bc hkw];unfold Q6o;rw [hs, if_pos rfl, hw', Lt, Br (Q97 _ _)]
  have e3 : v.Text.length % 256 ^ w = v.Text.length := by
   apply Mz;unfold Qda at f4;rw [if_neg hc, hs, if_pos rfl, hw'] at f4
   rcases h12 with rfl | rfl
   ·simp at f4; omega
   omega
  rw [e1, Qen, e3, if_pos (by omega)]
 | wide hs hw' hk2 hc =>
  simp only [hs, hw', Lm, if_false] at hlen hkw;have : (16 : Int).toNat = 16 := rfl;omega
 | num w hs hw' hh ht hc hbb =>
  simp only [hs, hw', Lm, if_false] at hlen hkw;omega
end
end Go.Av
namespace Go.Av
noncomputable section
open Go.Proofs
set_option maxRecDepth 100000
end
end Go.Av
