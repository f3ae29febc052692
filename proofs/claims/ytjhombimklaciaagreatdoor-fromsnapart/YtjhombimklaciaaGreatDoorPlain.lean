/- Part of the proof of FromsnApart: for every input the law returns true; no condition. -/
import Derived.Test.YtjhombimklaciaaGreatDoorLiftF2
import Derived.Test.YtjhombimklaciaaGreatDoorAvTac
import Derived.Test.YtjhombimklaciaaGreatDoorOks
namespace Go.Av
noncomputable section
open Go.Proofs
theorem Q35 {α : Type} (b : Bool) (x y : α) : cond b x y = if b = true then x else y := by cases b <;> rfl
@[simp] theorem Qjv (x y : Int) : (Q7 .lss x y = true) = (x < y) := by simp [Q7]
@[simp] theorem Qu1 (x y : Int) : (Q7 .leq x y = true) = (x ≤ y) := by simp [Q7]
@[simp] theorem Qxh (x y : Int) : (Q7 .gtr x y = true) = (x > y) := by simp [Q7]
@[simp] theorem Qx5 (x y : Int) : (Q7 .geq x y = true) = (x ≥ y) := by simp [Q7]
@[simp] theorem Qxi (x y : Int) : (Q7 .eql x y = true) = (x = y) := by simp [Q7]
@[simp] theorem Qsq (x y : Int) : (Q7 .neq x y = true) = (x ≠ y) := by simp [Q7]
theorem Q7j (x : Int) (h : -9223372036854775808 ≤ x ∧ x ≤ 9223372036854775807) : IntKind.wrap .i64 x = x := IntWalk.i64_in x h
mutual
def Qa.sz : Qa → Nat
 | .mk _ _ _ is => 1 + Qa.szs is
def Qa.szs : List Qa → Nat
 | [] => 0
 | v :: l => v.sz + Qa.szs l
end
theorem Qa.sz_eq (v : Qa) : v.sz = 1 + Qa.szs v.Items := by cases v; simp [Qa.sz]
theorem Qa.szs_len : ∀ l : List Qa, l.length ≤ Qa.szs l
 | [] => by simp
 | v :: l => by
  have h1 := Qa.szs_len l;have h2 := Qa.sz_eq v;simp only [Qa.szs, Mi];omega
theorem Qa.szs_mem : ∀ (l : List Qa) (v : Qa), v ∈ l → v.sz ≤ Qa.szs l
 | [], v, h => by cases h
 | u :: l, v, h => by
  simp only [Qa.szs]
  rcases Mp.1 h with rfl | h
  ·omega
  have := Qa.szs_mem l v h; omega
noncomputable instance : DecidableEq Qa := fun a b => Classical.propDecidable (a = b)
theorem Q6a (l : List Qa) : (Qa.rows l).length = l.length := by rw [Qa.rows_eq, Qh]
theorem Q9p {α : Type} (l : List α) (i : Nat) : idx l (i : Int) = l[i]? := rfl
theorem Qgv (x y : List UInt8) : (Jx .neq x y = true) = (x ≠ y) := by simp [Jx]
end
end Go.Av
namespace Go.Av
noncomputable section
open Go.Proofs
mutual
def Qa.txt : Qa → Prop
 | .mk _ _ t is => t.length ≤ 400 ∧ Qa.txts is
def Qa.txts : List Qa → Prop
 | [] => True
 | v :: l => v.txt ∧ Qa.txts l
end
end
end Go.Av
namespace Go.Av
noncomputable section
open Go.Proofs
theorem Qf8 (m : Nat) : (1 : Int) ≤ 2 ^ m := by
 have := Nat.one_le_two_pow (n := m)
 exact_mod_cast this
end
end Go.Av
namespace Go.Av
noncomputable section
def Qlc (s : List UInt8) : Nat := s.foldl (fun a b => a * 256 + b.toNat) 0
theorem Qcy (s : List UInt8) (b : UInt8) : Qlc (s ++ [b]) = Qlc s * 256 + b.toNat := by simp [Qlc]
def Q7u : Nat → Nat → List UInt8
 | _, 0 => []
 | n, w + 1 => Q7u (n / 256) w ++ [UInt8.ofNat (n % 256)]
theorem Qh0 : ∀ (w n : Nat), (Q7u n w).length = w
 | 0, _ => rfl
 | w + 1, n => by simp [Q7u, Qh0 w]
theorem Qtg {α : Type} {P : List α → Prop} (h0 : P []) (h1 : ∀ s b, P s → P (s ++ [b])) (s : List α) : P s := by
 have h : ∀ t : List α, P t.reverse := by
  intro t
  induction t with
  | nil => exact h0
  | cons b t ih => rw [List.reverse_cons]; exact h1 _ _ ih
 have := h s.reverse
 rwa [List.reverse_reverse] at this
theorem Qpq : ∀ (s : List UInt8), Qlc s < 256 ^ s.length := by
 refine Qtg (by simp [Qlc]) (fun s b ih => ?_)
 ·rw [Qcy, Lr, Bl, Nat.pow_succ];have := b.toNat_lt;simp at this;omega
end
end Go.Av
namespace Go.Av
noncomputable section
open Go.Proofs
end
end Go.Av
namespace Go.Av
noncomputable section
open Go.Proofs
set_option maxRecDepth 100000
theorem Q5a (n : Nat) (h : n < 18446744073709551616) : IntKind.u64.wrap (n : Int) = n := by
 simp only [IntKind.wrap, IntKind.bits, IntKind.signed]
 simp; omega
theorem Qr4 (a b : Nat) (ha : a < 18446744073709551616) (hb : b < 18446744073709551616) : orI .u64 (a : Int) (b : Int) = ((a ||| b : Nat) : Int) ∧ (a ||| b) < 18446744073709551616 := by
 have h64 : IntKind.u64.bits = 64 := rfl;have p64 : (2 : Nat) ^ 64 = 18446744073709551616 := rfl
 have hl : a ||| b < 2 ^ 64 := Nat.or_lt_two_pow (by omega) (by omega)
 simp only [orI];rw [h64, BitVec.ofInt_natCast, BitVec.ofInt_natCast, BitVec.toNat_or, BitVec.toNat_ofNat, BitVec.toNat_ofNat, Bx (by omega), Bx (by omega), Q5a _ (by omega)];exact ⟨rfl, by omega⟩
set_option maxRecDepth 100000 in
end
end Go.Av
namespace Go.Av
noncomputable section
open Go.Proofs
set_option maxRecDepth 100000
end
end Go.Av
namespace Go.Av
noncomputable section
open Go.Proofs
set_option maxRecDepth 100000
def okU (n : Int) : Prop := 0 ≤ n ∧ n < 18446744073709551616
end
end Go.Av
namespace Go.Av
noncomputable section
open Go.Proofs
set_option maxRecDepth 100000
theorem Qaz : ∀ (w n : Nat), Q7u n (w + 1) = UInt8.ofNat (n / 256 ^ w % 256) :: Q7u n w
 | 0, n => by simp [Q7u]
 | w + 1, n => by
  rw [Q7u, Qaz w (n / 256), Q7u, Nw, Nat.div_div_eq_div_mul, Nat.pow_succ, Cz 256]
def Qpg (n : Nat) : Nat → List Int
 | 0 => []
 | w + 1 => ((n / 256 ^ w % 256 : Nat) : Int) :: Qpg n w
theorem Qhm (n : Nat) : ∀ w, (Qpg n w).map (fun n => UInt8.ofNat n.toNat) = Q7u n w
 | 0 => rfl
 | w + 1 => by rw [Qpg, Nf, Qhm n w, Qaz]; rfl
theorem Qql (m : Nat) (x : Int) (t : List Int) : (List.replicate (m + 1) (0 : Int) ++ t).set m x = List.replicate m 0 ++ (x :: t) := by
 rw [List.replicate_succ', List.append_assoc, List.set_append_right _ _ (by simp)];simp
theorem Qt4 (x : Int) : IntKind.u8.wrap x = x % 256 := by simp [IntKind.wrap, IntKind.bits, IntKind.signed]
theorem Qoj (N n w : Nat) (hn : n < 18446744073709551616) (hw : w ≤ 8) : ∀ (k i : Nat), i ≤ w → w - i < k → Zu N (n : Int) (w : Int) k (i : Int) (List.replicate (w - i) 0 ++ Qpg n i) = some (Q7u n w)
 | 0, i, h, h2 => by omega
 | k + 1, i, h, h2 => by
  have e1 : ifB (decide ((16 : Int) < (w : Int))) (16 : Int) (w : Int) = w := by rw [decide_eq_false (by omega)]; rfl
  simp only [Zu, Q35, Qjv, e1]
  by_cases hi : i < w
  ·rw [if_pos (by omega), if_pos (by omega)]
   have e2 : IntKind.i64.wrap (8 * (i : Int)) = ((8 * i : Nat) : Int) := by rw [Q7j _ (by omega)]; push_cast; rfl
   have e3 : IntKind.u64.wrap ((8 * i : Nat) : Int) = ((8 * i : Nat) : Int) := Q5a _ (by omega)
   have e4 : IntKind.i64.wrap (IntKind.i64.wrap ((w : Int) - 1) - (i : Int)) = ((w - i - 1 : Nat) : Int) := by
    rw [Q7j ((w : Int) - 1) (by omega), Q7j _ (by omega)]; omega
   rw [e2, e3, e4, if_pos (decide_eq_true (Int.natCast_nonneg _))]
   have hlen : (List.replicate (w - i) (0 : Int) ++ Qpg n i).length ≥ w - i := by simp
   rw [Q9p, Lc (by omega)];simp only [Li]
   have e5 : IntKind.u8.wrap (Q46 .u64 (n : Int) ((8 * i : Nat) : Int)) = ((n / 256 ^ i % 256 : Nat) : Int) := by
    rw [Qt4];simp only [Q46]
    have : min (((8 * i : Nat) : Int).toNat) IntKind.u64.bits = 8 * i := by simp [IntKind.bits]; omega
    rw [this, Cq _ (by have := Qf8 (8 * i); omega)];have e0 : (2 : Nat) ^ (8 * i) = 256 ^ i := Nat.pow_mul 2 8 i
    have e : ((2 : Int) ^ (8 * i)) = ((256 ^ i : Nat) : Int) := by rw [← e0]; push_cast; rfl
    rw [e]
    push_cast
    rfl
   rw [e5, show Int.toNat ((w - i - 1 : Nat) : Int) = w - i - 1 from rfl, Q7j _ (by omega)];obtain ⟨m, hm⟩ : ∃ m, w - i = m + 1 := ⟨w - i - 1, by omega⟩;have h3 := Qoj N n w hn hw k (i + 1) (by omega) (by omega);rw [show w - (i + 1) = m by omega, Qpg] at h3;rw [hm, Nat.add_sub_cancel, Qql]
   exact_mod_cast h3
  rw [if_neg (by omega)]
  have : i = w := by omega
  subst this;rw [Bk, List.replicate_zero, List.nil_append, Qhm]
theorem Qp7 (N n w : Nat) (hn : n < 18446744073709551616) (hw : w ≤ 8) (hN : 10 < N) : Ze N (n : Int) (w : Int) = some (Q7u n w) := by
 have e1 : ifB (decide ((16 : Int) < (w : Int))) (16 : Int) (w : Int) = w := by rw [decide_eq_false (by omega)]; rfl
 simp only [Ze, Q35, Qu1, e1]
 by_cases h0 : (w : Int) ≤ 0
 ·rw [if_pos h0]
  have : w = 0 := by omega
  subst this; rfl
 rw [if_neg h0, if_pos (by simp; omega)];have := Qoj N n w hn hw N 0 (by omega) (by omega);simpa [Qpg] using this
theorem Qlh (a b : Nat) (ha : a < 72057594037927936) (hb : b < 256) : orI .u64 (Q10 .u64 (a : Int) 8) (IntKind.u64.wrap (b : Int)) = ((a * 256 + b : Nat) : Int) := by
 have e1 : Q10 .u64 (a : Int) 8 = ((a * 256 : Nat) : Int) := by
  simp only [Q10];have : min (Int.toNat 8) IntKind.u64.bits = 8 := rfl;rw [this, show ((a : Int) * 2 ^ 8) = ((a * 256 : Nat) : Int) by push_cast; rfl, Q5a _ (by omega)]
 rw [e1, Q5a b (by omega), (Qr4 _ _ (by omega) (by omega)).1];have := Nat.shiftLeft_add_eq_or_of_lt (show b < 2 ^ 8 by omega) a;rw [Nat.shiftLeft_eq] at this;rw [← this]
theorem Qll (s : List UInt8) (i : Nat) (hi : i < s.length) : Qlc (s.take (i + 1)) = Qlc (s.take i) * 256 + s[i].toNat := by
 rw [List.take_succ_eq_append_getElem hi, Qcy]
end
end Go.Av
namespace Go.Av
noncomputable section
open Go.Proofs
set_option maxRecDepth 100000
end
end Go.Av
namespace Go.Av
noncomputable section
open Go.Proofs
set_option maxRecDepth 100000
end
end Go.Av
namespace Go.Av
noncomputable section
open Go.Proofs
set_option maxRecDepth 100000
theorem Qa.ext' {v w : Qa} (h1 : v.Kind = w.Kind) (h2 : v.N' = w.N') (h3 : v.Text = w.Text) (h4 : v.Items = w.Items) : v = w := by
 cases v; cases w; simp_all
end
end Go.Av
namespace Go.Av
noncomputable section
open Go.Proofs
set_option maxRecDepth 100000
end
end Go.Av
namespace Go.Av
noncomputable section
open Go.Proofs
set_option maxRecDepth 100000
end
end Go.Av
namespace Go.Av
noncomputable section
open Go.Proofs
set_option maxRecDepth 100000
theorem kinds {k : Int} (h : 1 ≤ k ∧ k ≤ 21) : k = 1 ∨ k = 2 ∨ k = 3 ∨ k = 4 ∨ k = 5 ∨ k = 6 ∨ k = 7 ∨ k = 8 ∨ k = 9 ∨ k = 10 ∨ k = 11 ∨ k = 12 ∨ k = 13 ∨ k = 14 ∨ k = 15 ∨ k = 16 ∨ k = 17 ∨ k = 18 ∨ k = 19 ∨ k = 20 ∨ k = 21 := by omega
end
end Go.Av
namespace Go.Av
noncomputable section
open Go.Proofs
set_option maxRecDepth 100000
theorem Qoe (N w : Nat) (hw : w ≤ 8) : ∀ (k i n : Nat) (out : List UInt8), n < 18446744073709551616 → i ≤ w → w - i < k → out.length ≤ i → Y6 N (w : Int) k (n : Int) out (i : Int) = some (Q7u n (w - i) ++ out)
 | 0, i, n, out, _, _, h, _ => by omega
 | k + 1, i, n, out, hn, hi, hk, ho => by
  simp only [Y6, Q35, Qjv]
  by_cases h : i < w
  ·rw [if_pos (by omega), if_pos (by simp [Nat.ble_eq]; omega), Q7j _ (by omega)]
   have e1 : Q46 .u64 (n : Int) 8 = ((n / 256 : Nat) : Int) := by
    simp only [Q46];rw [show min (Int.toNat 8) IntKind.u64.bits = 8 from rfl, Cq _ (by decide)]
    push_cast; rfl
   have e2 : UInt8.ofNat (IntKind.u8.wrap (n : Int)).toNat = UInt8.ofNat (n % 256) := by
    rw [Qt4]; congr 1
   have := Qoe N w hw k (i + 1) (n / 256) (UInt8.ofNat (n % 256) :: out) (by omega) (by omega) (by omega) (by simp; omega);rw [e1, e2, show ((i : Int) + 1) = ((i + 1 : Nat) : Int) by push_cast; rfl, List.singleton_append, this];obtain ⟨m, hm⟩ : ∃ m, w - i = m + 1 := ⟨w - i - 1, by omega⟩;rw [hm, show w - (i + 1) = m by omega, Q7u];simp
  rw [if_neg (by omega), show w - i = 0 by omega]; rfl
theorem Qtd (N n w : Nat) (hn : n < 18446744073709551616) (hw : w ≤ 8) (hN : 10 < N) : Xj N (n : Int) (w : Int) = some (Q7u n w) := by
 have := Qoe N w hw N 0 n [] hn (by omega) (by omega) (by simp);unfold Xj;rw [show (0 : Int) = ((0 : Nat) : Int) from rfl, this]; simp
theorem Qp1 (N : Nat) (s : List UInt8) (hl : s.length ≤ 8) : ∀ (k i : Nat), i ≤ s.length → s.length - i < k → Zo N s k (Qlc (s.take i) : Nat) (i : Int) = some ((Qlc s : Nat) : Int)
 | 0, i, h, h2 => by omega
 | k + 1, i, h, h2 => by
  simp only [Zo, Q35, Qjv]
  by_cases hi : i < s.length
  ·rw [if_pos (by omega), Q9p, Lc hi];simp only [Li];have h3 := Qpq (s.take i);have h4 : 256 ^ (s.take i).length ≤ 256 ^ 7 := Nat.pow_le_pow_right (by omega) (by rw [Mh]; omega);have h5 : (256 : Nat) ^ 7 = 72057594037927936 := rfl;rw [Qlh _ _ (by omega) s[i].toNat_lt, ← Qll s i hi, Q7j _ (by omega)]
   exact_mod_cast Qp1 N s hl k (i + 1) (by omega) (by omega)
  rw [if_neg (by omega), Na (by omega)]
theorem Qtb (N : Nat) (s : List UInt8) (hl : s.length ≤ 8) (hN : 10 < N) : Yl N s = some ((Qlc s : Nat) : Int) := by
 unfold Yl;exact Qp1 N s hl N 0 (by omega) (by omega)
end
end Go.Av
namespace Go.Av
noncomputable section
open Go.Proofs
set_option maxRecDepth 100000
end
end Go.Av
namespace Go.Av
noncomputable section
open Go.Proofs
set_option maxRecDepth 100000
end
end Go.Av
namespace Go.Av
noncomputable section
open Go.Proofs
set_option maxRecDepth 100000
open Classical in
inductive Fine : Qa → Prop
 | mk (v : Qa) (hn : okU v.N') (ht : v.Text.length ≤ 300000) (hi : ∀ x ∈ v.Items, Fine x) : Fine v
theorem Fine.text {v : Qa} (h : Fine v) : v.Text.length ≤ 300000 := by cases h; assumption
theorem Fine.items {v : Qa} (h : Fine v) : ∀ x ∈ v.Items, Fine x := by cases h; assumption
end
end Go.Av
namespace Go.Av
noncomputable section
open Go.Proofs
set_option maxRecDepth 100000
end
end Go.Av
namespace Go.Av
noncomputable section
open Go.Proofs
set_option maxRecDepth 100000
end
end Go.Av
namespace Go.Av
noncomputable section
open Go.Proofs
set_option maxRecDepth 100000
end
end Go.Av
namespace Go.Av
noncomputable section
open Go.Proofs
set_option maxRecDepth 100000
end
end Go.Av
namespace Go.Av
noncomputable section
open Go.Proofs
set_option maxRecDepth 100000
end
end Go.Av
namespace Go.Av
noncomputable section
open Go.Proofs
set_option maxRecDepth 100000
end
end Go.Av
