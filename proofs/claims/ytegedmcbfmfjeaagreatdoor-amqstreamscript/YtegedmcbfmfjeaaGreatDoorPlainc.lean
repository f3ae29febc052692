/- The law. Part of a proof of a given statement: for every input the law returns true and the arguments read as before; no condition beyond the given row. -/
import Derived.Test.YtegedmcbfmfjeaaGreatDoorPlainb
import Derived.Test.YtegedmcbfmfjeaaGreatDoorOks
import Derived.Test.YtegedmcbfmfjeaaGreatDoorLiftF4
namespace Go.Av
noncomputable section
open Go.Proofs
set_option maxRecDepth 100000
end
end Go.Av
namespace Go.Av
noncomputable section
open Go.Proofs
set_option maxRecDepth 100000
def Q3m (s : List UInt8) : List Int := s.map fun b => (b.toNat : Int)
theorem Qlc (s t : List UInt8) : Q3m (s ++ t) = Q3m s ++ Q3m t := by simp [Q3m]
theorem Q03 (s : List UInt8) : (Q3m s).length = s.length := by simp [Q3m]
end
end Go.Av
namespace Go.Av
noncomputable section
open Go.Proofs
set_option maxRecDepth 100000
theorem Qis (s : List UInt8) : (Q3m s).map (fun n => UInt8.ofNat n.toNat) = s := by
 unfold Q3m
 rw [List.map_map]
 conv => rhs; rw [← List.map_id s]
 apply List.map_congr_left
 intro b _
 simp
end
end Go.Av
namespace Go.Av
noncomputable section
open Go.Proofs
set_option maxRecDepth 100000
end
end Go.Av
namespace Go.Av
noncomputable section
open Go.Proofs
set_option maxRecDepth 100000
end
end Go.Av
namespace Go.Av
noncomputable section
open Go.Proofs
set_option maxRecDepth 100000
end
end Go.Av
namespace Go.Av
noncomputable section
open Go.Proofs
set_option maxRecDepth 100000
def Wv (l : Qe) : Bool := decide (16 ≤ l.MaxPacket ∧ l.MaxPacket ≤ 1048576 ∧ 0 ≤ l.MaxDepth ∧ l.MaxDepth ≤ 32)
structure FB (f : Q9) : Prop where
 fine : ∀ x ∈ f.Values, Fine x
 sz : Q0.szs f.Values < 160000000
 wgt : Q0.wgts f.Values < 4000000000
theorem FB.one {f : Q9} (h : FB f) : ∀ x ∈ f.Values, Fine x ∧ x.sz < 160000000 ∧ x.wgt < 4000000000 := fun x hx => by
 have h1 := Q0.szs_mem _ x hx
 have h2 := Qf9 _ x hx
 have h3 := h.sz
 have h4 := h.wgt
 exact ⟨h.fine x hx, by omega, by omega⟩
theorem FB.len {f : Q9} (h : FB f) : f.Values.length < 160000000 := by
 have h1 := Q0.szs_len f.Values
 have h2 := h.sz
 omega
theorem Q9h (N : Nat) (l : Qe) : Vp N l = some (Wv l) := by
 unfold Vp Wv
 simp only [Qd, Q60, Qbz]
 repeat' split
 all_goals (congr 1; symm)
 ·rw [Bool.eq_iff_iff]; simp only [decide_eq_true_eq, Qbz]; omega
 all_goals (rw [decide_eq_false_iff_not]; omega)
theorem Q1c (N : Nat) (l : Qe) : Ym N l = some (Wv l) := Q9h N l
theorem Qlv (N : Nat) (n : Int) : Vr N n = some (decide (n = 0 ∨ n = 1)) := by
 unfold Vr
 simp only [Qd, Ve]
 split
 ·rename_i h; simp [h]
 ·rename_i h
  congr 1
  rw [Bool.eq_iff_iff, Ve]; simp [h]
theorem Qov (s : List UInt8) : (s.map fun b => (b.toNat : Int)) = Q3m s := rfl
end
end Go.Av
namespace Go.Av
noncomputable section
open Go.Proofs
set_option maxRecDepth 100000
theorem Q9.ext' {a b : Q9} (h1 : a.Type' = b.Type') (h2 : a.Channel = b.Channel) (h3 : a.Ext = b.Ext) (h4 : a.Values = b.Values) : a = b := by cases a; cases b; simp_all
noncomputable instance : DecidableEq Q9 := fun a b => decidable_of_iff (a.Type' = b.Type' ∧ a.Channel = b.Channel ∧ a.Ext = b.Ext ∧ a.Values = b.Values) ⟨fun h => Q9.ext' h.1 h.2.1 h.2.2.1 h.2.2.2, fun h => by rw [h]; exact ⟨rfl, rfl, rfl, rfl⟩⟩
theorem Qkk (l m : List Q0) (i : Nat) (h : i < l.length) (h' : i < m.length) : decide (l.drop i = m.drop i) = (decide (l[i] = m[i]) && decide (l.drop (i + 1) = m.drop (i + 1))) := by
 rw [List.drop_eq_getElem_cons h, List.drop_eq_getElem_cons h', Bool.eq_iff_iff]
 simp only [decide_eq_true_eq, Bool.and_eq_true, List.cons.injEq]
theorem Qft {N : Nat} (hN : N = 800000000) {a b : Q9} (ha : Q0.szs a.Values < 700000000) (hl : a.Values.length = b.Values.length) : ∀ (n i : Nat), i ≤ a.Values.length → a.Values.length - i < n → Zd N a b n (i : Int) = some (decide (a.Values.drop i = b.Values.drop i))
 | 0, i, _, h => by omega
 | n + 1, i, hi, hn => by
  have hs := Q0.szs_len a.Values
  simp only [Zd, Qd, V0, Vc, U3]
  by_cases h : i < a.Values.length
  ·have h' : i < b.Values.length := by omega
   have hx := Q0.szs_mem _ _ (List.getElem_mem h)
   rw [if_pos (by omega), List.getElem?_eq_getElem h, List.getElem?_eq_getElem h']
   simp only [Option.bind_some]
   rw [Q5f N _ _ (by omega) (by omega), Qkk _ _ i h h']
   simp only [Option.bind_some]
   rw [Zm _ (by omega)]
   have ih := Qft hN ha hl n (i + 1) (by omega) (by omega)
   have ih : Zd N a b n ((i : Int) + 1) = some (decide (a.Values.drop (i + 1) = b.Values.drop (i + 1))) := by exact_mod_cast ih
   rw [ih]
   cases decide (a.Values[i] = b.Values[i]) <;> rfl
  ·rw [if_neg (by omega), List.drop_of_length_le (by omega), List.drop_of_length_le (by omega)]; rfl
theorem Qkt {N : Nat} (hN : N = 800000000) (a b : Q9) (ha : Q0.szs a.Values < 700000000) : Xj N a b = some (decide (a = b)) := by
 have hs := Q0.szs_len a.Values
 simp only [Xj, Qd, Wt, J4, Vc]
 by_cases h1 : a.Type' = b.Type'
 ·rw [if_neg (by simp [h1])]
  by_cases h2 : a.Channel = b.Channel
  ·rw [if_neg (by simp [h2])]
   by_cases h3 : a.Ext = b.Ext
   ·rw [if_neg (by simp [h3])]
    by_cases h4 : a.Values.length = b.Values.length
    ·rw [if_neg (by simp [h4])]
     have := Qft hN ha h4 N 0 (by omega) (by omega)
     rw [List.drop_zero, List.drop_zero] at this
     have : Zd N a b N 0 = some (decide (a.Values = b.Values)) := by exact_mod_cast this
     rw [this]
     congr 1
     rw [Bool.eq_iff_iff]
     simp only [decide_eq_true_eq]
     exact ⟨fun h => Q9.ext' h1 h2 h3 h, fun h => by rw [h]⟩
    ·rw [if_pos (by omega), decide_eq_false (fun h => h4 (by rw [h]))]
   ·rw [if_pos h3, decide_eq_false (fun h => h3 (by rw [h]))]
  ·rw [if_pos h2, decide_eq_false (fun h => h2 (by rw [h]))]
 ·rw [if_pos h1, decide_eq_false (fun h => h1 (by rw [h]))]
end
end Go.Av
namespace Go.Av
noncomputable section
open Go.Proofs
set_option maxRecDepth 100000
def Qa1 : Q9 := ⟨0, 0, [], []⟩
def Xw (s : List UInt8) (l : Qe) : Int × Int :=
 if Wv l = false then (0, 2) else if s.length < 8 then (0, 3) else if l.MaxPacket < (Vo (s.take 4) : Int) then (0, 4)
 else if Vo (s.take 4) < 8 ∨ (s.getD 4 0).toNat < 2 ∨ Vo (s.take 4) < 4 * (s.getD 4 0).toNat then (0, 5)
 else if 1 < (s.getD 5 0).toNat then (0, 8) else ((Vo (s.take 4) : Int), 0)
def G4 (rd : List UInt8 → Rd) : Nat → List UInt8 → List Q0 → List Q0 × Int
 | 0, _, _ => ([], 0)
 | k + 1, s, acc => if s = [] then (acc, 0) else if acc.length = 1000 then ([], 4) else if (rd s).2.2 = 3 then ([], 5) else if (rd s).2.2 ≠ 0 then ([], (rd s).2.2) else G4 rd k (s.drop (rd s).2.1.toNat) (acc ++ [(rd s).1])
def Qmd (q : List Q0 × Int) (r : List Q0 → Q9 × Int × Int) : Q9 × Int × Int := if q.2 ≠ 0 then (Qa1, 0, q.2) else r q.1
theorem Qj4 (l : List Q0) (r : List Q0 → Q9 × Int × Int) : Qmd (l, 0) r = r l := if_neg (fun h => h rfl)
theorem Q2i (l : List Q0) {e : Int} (h : e ≠ 0) (r : List Q0 → Q9 × Int × Int) : Qmd (l, e) r = (Qa1, 0, e) := if_pos h
def Q52 (s : List UInt8) (n : Nat) : List UInt8 := (s.take n).drop (4 * (s.getD 4 0).toNat)
noncomputable def Q3x (s : List UInt8) (n : Nat) (m : Nat) : Q9 × Int × Int :=
 Qmd (G4 (Zc (Ye m)) ((Q52 s n).length + 1) (Q52 s n) []) fun vs => (⟨((s.getD 5 0).toNat : Int), (Vo ((s.take 8).drop 6) : Int), (s.take (4 * (s.getD 4 0).toNat)).drop 8, vs⟩, (n : Int), 0)
noncomputable def Zi (s : List UInt8) (l : Qe) : Q9 × Int × Int :=
 if (Xw s l).2 ≠ 0 then (Qa1, 0, (Xw s l).2) else if s.length < Vo (s.take 4) then (Qa1, 0, 3) else Q3x s (Vo (s.take 4)) l.MaxDepth.toNat
theorem Qgm {s : List UInt8} (h : 8 ≤ s.length) : ∃ a0 a1 a2 a3 a4 a5 a6 a7 t, s = a0 :: a1 :: a2 :: a3 :: a4 :: a5 :: a6 :: a7 :: t := by
 match s, h with
 | a0 :: a1 :: a2 :: a3 :: a4 :: a5 :: a6 :: a7 :: t, _ => exact ⟨a0, a1, a2, a3, a4, a5, a6, a7, t, rfl⟩
theorem Qln (b : UInt8) : UInt8.ofNat ((b.toNat : Int)).toNat = b := by simp
theorem Q9q (b : UInt8) : IntKind.i64.wrap (b.toNat : Int) = ((b.toNat : Nat) : Int) := by
 have := b.toNat_lt
 rw [Zm _ (by omega)]
theorem Qpu (b : UInt8) : IntKind.u64.wrap (b.toNat : Int) = ((b.toNat : Nat) : Int) := by
 have := b.toNat_lt
 exact J2 _ (by omega)
theorem Q6b {l : Qe} (h : Wv l = true) : 16 ≤ l.MaxPacket ∧ l.MaxPacket ≤ 1048576 ∧ 0 ≤ l.MaxDepth ∧ l.MaxDepth ≤ 32 := by simpa [Wv] using h
theorem Qr4 (a b c d : UInt8) : Vo [a, b, c, d] < 4294967296 := by
 have := Jn [a, b, c, d]
 simpa using this
theorem Qr0 (a b : UInt8) : Vo [a, b] < 65536 := by
 have := Jn [a, b]
 simpa using this
theorem Q2o {s : List UInt8} {l : Qe} (h : (Xw s l).2 = 0) : Wv l = true ∧ 8 ≤ s.length ∧ (Vo (s.take 4) : Int) ≤ l.MaxPacket ∧ 8 ≤ Vo (s.take 4) ∧ 2 ≤ (s.getD 4 0).toNat ∧ 4 * (s.getD 4 0).toNat ≤ Vo (s.take 4) ∧ (s.getD 5 0).toNat ≤ 1 ∧ Xw s l = ((Vo (s.take 4) : Int), 0) := by
 unfold Xw at h ⊢
 split at h
 ·cases h
 rename_i h1; rw [if_neg h1]
 split at h
 ·cases h
 rename_i h2; rw [if_neg h2]
 split at h
 ·cases h
 rename_i h3; rw [if_neg h3]
 split at h
 ·cases h
 rename_i h4; rw [if_neg h4]
 split at h
 ·cases h
 rename_i h5; rw [if_neg h5]
 exact ⟨by simpa using h1, by omega, by omega, by omega, by omega, by omega, by omega, rfl⟩
theorem Qdb {N : Nat} (hN : N = 800000000) (s : List UInt8) (l : Qe) : X2 N s l = some (Xw s l) := by
 simp only [X2, Q9h, Option.bind_some, Qd, V0, Q1g, Xw]
 cases hr : Wv l with
 | false => rfl
 | true =>
  obtain ⟨r1, r2, r3, r4⟩ := Q6b hr
  simp only [Bool.not_true, Bool.false_eq_true, if_false, Bool.true_eq_false]
  by_cases h8 : s.length < 8
  ·rw [if_pos (by omega), if_pos h8]
  rw [if_neg (by omega), if_neg h8]
  obtain ⟨a0, a1, a2, a3, a4, a5, a6, a7, t, rfl⟩ := Qgm (s := s) (by omega)
  have i0 : idx (a0 :: a1 :: a2 :: a3 :: a4 :: a5 :: a6 :: a7 :: t) 0 = some a0 := rfl
  have i1 : idx (a0 :: a1 :: a2 :: a3 :: a4 :: a5 :: a6 :: a7 :: t) 1 = some a1 := rfl
  have i2 : idx (a0 :: a1 :: a2 :: a3 :: a4 :: a5 :: a6 :: a7 :: t) 2 = some a2 := rfl
  have i3 : idx (a0 :: a1 :: a2 :: a3 :: a4 :: a5 :: a6 :: a7 :: t) 3 = some a3 := rfl
  have i4 : idx (a0 :: a1 :: a2 :: a3 :: a4 :: a5 :: a6 :: a7 :: t) 4 = some a4 := rfl
  have i5 : idx (a0 :: a1 :: a2 :: a3 :: a4 :: a5 :: a6 :: a7 :: t) 5 = some a5 := rfl
  have i6 : idx (a0 :: a1 :: a2 :: a3 :: a4 :: a5 :: a6 :: a7 :: t) 6 = some a6 := rfl
  have i7 : idx (a0 :: a1 :: a2 :: a3 :: a4 :: a5 :: a6 :: a7 :: t) 7 = some a7 := rfl
  have e0 : (a0 :: a1 :: a2 :: a3 :: a4 :: a5 :: a6 :: a7 :: t).take 4 = [a0, a1, a2, a3] := rfl
  have e4 : (a0 :: a1 :: a2 :: a3 :: a4 :: a5 :: a6 :: a7 :: t).getD 4 0 = a4 := rfl
  have e5 : (a0 :: a1 :: a2 :: a3 :: a4 :: a5 :: a6 :: a7 :: t).getD 5 0 = a5 := rfl
  have b4 := a4.toNat_lt
  have b5 := a5.toNat_lt
  have bn := Qr4 a0 a1 a2 a3
  rw [i0, i1, i2, i3, i4, i5, i6, i7, e0, e4, e5]
  simp only [Option.bind_some, Qln, Q9q, Qpu]
  rw [Q6t N [a0, a1, a2, a3] (by simp) (by omega)]
  have ew : IntKind.u64.wrap l.MaxPacket = l.MaxPacket := by
   have h : ((l.MaxPacket.toNat : Nat) : Int) = l.MaxPacket := by omega
   have h2 := J2 l.MaxPacket.toNat (by omega)
   rw [h] at h2; exact h2
  have e4w : IntKind.u64.wrap ((a4.toNat : Int) * 4) = ((4 * a4.toNat : Nat) : Int) := by
   rw [show ((a4.toNat : Int) * 4) = ((4 * a4.toNat : Nat) : Int) by omega, J2 _ (by omega)]
  simp only [Option.bind_some, ew, e4w, Qlv]
  generalize Vo [a0, a1, a2, a3] = n at bn ⊢
  by_cases c1 : l.MaxPacket < (n : Int)
  ·rw [if_pos (by omega), if_pos c1]
  rw [if_neg (by omega), if_neg c1]
  by_cases c2 : n < 8 ∨ a4.toNat < 2 ∨ n < 4 * a4.toNat
  ·rw [if_pos c2]
   repeat' split
   all_goals first | rfl | omega
  rw [if_neg c2, if_neg (by omega), if_neg (by omega), if_neg (by omega)]
  by_cases c3 : 1 < a5.toNat
  ·rw [if_pos c3, decide_eq_false (by omega)]; rfl
  ·rw [if_neg c3, decide_eq_true (by omega)]
   simp only [Bool.not_true, Bool.false_eq_true, if_false]
   rw [Zm _ (by omega)]
theorem Qh2 {N : Nat} (hN : N = 800000000) (s : List UInt8) (l : Qe) : Wc N s l = some (Xw s l) := by
 simp only [Wc, Q1c, Option.bind_some, Qd, V0, Q1g, Xw]
 cases hr : Wv l with
 | false => rfl
 | true =>
  obtain ⟨r1, r2, r3, r4⟩ := Q6b hr
  simp only [Bool.not_true, Bool.false_eq_true, if_false, Bool.true_eq_false]
  by_cases h8 : s.length < 8
  ·rw [if_pos (by omega), if_pos h8]
  rw [if_neg (by omega), if_neg h8]
  obtain ⟨a0, a1, a2, a3, a4, a5, a6, a7, t, rfl⟩ := Qgm (s := s) (by omega)
  have i4 : idx (a0 :: a1 :: a2 :: a3 :: a4 :: a5 :: a6 :: a7 :: t) 4 = some a4 := rfl
  have i5 : idx (a0 :: a1 :: a2 :: a3 :: a4 :: a5 :: a6 :: a7 :: t) 5 = some a5 := rfl
  have e0 : (a0 :: a1 :: a2 :: a3 :: a4 :: a5 :: a6 :: a7 :: t).take 4 = [a0, a1, a2, a3] := rfl
  have e4 : (a0 :: a1 :: a2 :: a3 :: a4 :: a5 :: a6 :: a7 :: t).getD 4 0 = a4 := rfl
  have e5 : (a0 :: a1 :: a2 :: a3 :: a4 :: a5 :: a6 :: a7 :: t).getD 5 0 = a5 := rfl
  have b4 := a4.toNat_lt
  have b5 := a5.toNat_lt
  have bn := Qr4 a0 a1 a2 a3
  have ew : IntKind.u64.wrap l.MaxPacket = l.MaxPacket := by
   have h : ((l.MaxPacket.toNat : Nat) : Int) = l.MaxPacket := by omega
   have h2 := J2 l.MaxPacket.toNat (by omega)
   rw [h] at h2; exact h2
  have e4w : IntKind.u64.wrap (4 * (a4.toNat : Int)) = ((4 * a4.toNat : Nat) : Int) := by
   rw [show (4 * (a4.toNat : Int)) = ((4 * a4.toNat : Nat) : Int) by omega, J2 _ (by omega)]
  rw [if_pos (by simp [Nat.ble_eq]), e0, List.drop_zero, Q9o N [a0, a1, a2, a3] (by simp) (by omega)]
  simp only [Option.bind_some, ew, i4, i5, e4, e5, Q9q, Qpu, e4w, Wt]
  generalize Vo [a0, a1, a2, a3] = n at bn ⊢
  by_cases c1 : l.MaxPacket < (n : Int)
  ·rw [if_pos (by omega), if_pos c1]
  rw [if_neg (by omega), if_neg c1]
  by_cases c2 : n < 8 ∨ a4.toNat < 2 ∨ n < 4 * a4.toNat
  ·rw [if_pos c2]
   repeat' split
   all_goals first | rfl | omega
  rw [if_neg c2, if_neg (by omega), if_neg (by omega), if_neg (by omega), Zm _ (by omega)]
  by_cases c3 : 1 < a5.toNat
  ·rw [if_pos c3, if_pos (by omega), if_pos (by omega)]
  ·rw [if_neg c3]
   by_cases c4 : (a5.toNat : Int) ≠ 0
   ·rw [if_pos c4, if_neg (by omega)]
   ·rw [if_neg c4]
theorem Q3f {rd : List UInt8 → Rd} (hg : ∀ s, s.length ≤ 600000 → (rd s).2.2 = 0 → 1 ≤ (rd s).2.1) : ∀ (k k' : Nat) (s : List UInt8) (acc : List Q0), s.length ≤ 600000 → s.length < k → s.length < k' → G4 rd k s acc = G4 rd k' s acc
 | 0, _, s, acc, _, h, _ => by omega
 | k + 1, 0, s, acc, _, _, h => by omega
 | k + 1, k' + 1, s, acc, hs, h1, h2 => by
  simp only [G4]
  by_cases h0 : s = []
  ·rw [if_pos h0, if_pos h0]
  rw [if_neg h0, if_neg h0]
  by_cases h3 : acc.length = 1000
  ·rw [if_pos h3, if_pos h3]
  rw [if_neg h3, if_neg h3]
  by_cases h4 : (rd s).2.2 = 3
  ·rw [if_pos h4, if_pos h4]
  rw [if_neg h4, if_neg h4]
  by_cases h5 : (rd s).2.2 = 0
  ·rw [if_neg (by simp [h5]), if_neg (by simp [h5])]
   have := hg s hs h5
   have hl : 0 < s.length := List.length_pos_iff.2 h0
   exact Q3f hg k k' _ _ (by rw [List.length_drop]; omega) (by rw [List.length_drop]; omega) (by rw [List.length_drop]; omega)
  ·rw [if_pos h5, if_pos h5]
theorem Q4e (m : Nat) : ∀ s : List UInt8, s.length ≤ 600000 → (Zc (Ye m) s).2.2 = 0 → 1 ≤ (Zc (Ye m) s).2.1 := fun s hs he => by
 have := (Un (Uq m)).2 s hs he
 omega
theorem Qj2 {N : Nat} (hN : N = 800000000) {s0 : List UInt8} {l : Qe} {m : Nat} (hm : l.MaxDepth = (m : Int)) (hm2 : m ≤ 32) {v1 : Int × Int} {b5 b7 : UInt8} {v10 : Int} : ∀ (n : Nat) (left : List UInt8) (acc : List Q0), left.length ≤ 600000 → left.length < n → acc.length ≤ 1000 →
  W8 N s0 l v1 b5 b7 v10 n left acc = some (Qmd (G4 (Zc (Ye m)) n left acc) fun vs => (⟨IntKind.i64.wrap (b7.toNat : Int), IntKind.i64.wrap v10, (s0.take (IntKind.i64.wrap (4 * IntKind.i64.wrap (b5.toNat : Int))).toNat).drop 8, vs⟩, v1.1, 0))
 | 0, left, acc, _, h, _ => by omega
 | n + 1, left, acc, hl, hn, ha => by
  simp only [W8, Qd, J4, Ve, Wt, G4, hm]
  by_cases h0 : left = []
  ·rw [if_neg (by simp [h0]), if_pos h0, Qj4]
  rw [if_pos h0, if_neg h0]
  by_cases h3 : acc.length = 1000
  ·rw [if_pos (by omega), if_pos h3, Q2i _ (by decide)]; rfl
  rw [if_neg (by omega), if_neg h3, Qpl m N left hm2 (by omega) hl]
  simp only [Option.bind_some]
  by_cases h4 : (Zc (Ye m) left).2.2 = 3
  ·rw [if_pos h4, if_pos h4, Q2i _ (by decide)]; rfl
  rw [if_neg h4, if_neg h4]
  by_cases h5 : (Zc (Ye m) left).2.2 = 0
  ·rw [if_neg (show ¬ ((Zc (Ye m) left).2.2 ≠ 0) by simp [h5]), if_neg (show ¬ ((Zc (Ye m) left).2.2 ≠ 0) by simp [h5])]
   have g1 := Q4e m left hl h5
   have g2 := ((Un (Uq m)).1 left hl h5).2.1
   have hp : 0 < left.length := List.length_pos_iff.2 h0
   rw [if_pos (by rw [Nat.ble_eq]; omega), if_pos (by simp; omega), if_pos (by simp [Nat.ble_eq]; omega), List.take_length]
   exact Qj2 hN hm hm2 n _ _ (by rw [List.length_drop]; omega) (by rw [List.length_drop]; omega) (by simp; omega)
  ·rw [if_pos h5, if_pos (show (Zc (Ye m) left).2.2 ≠ 0 from h5), Q2i _ h5]; rfl
theorem Q99 {N : Nat} (hN : N = 800000000) {s0 : List UInt8} {l : Qe} {m : Nat} (hm : l.MaxDepth = (m : Int)) (hm2 : m ≤ 32) {v1 : Int × Int} {b5 b7 : UInt8} {v10 : Int} : ∀ (n : Nat) (left : List UInt8) (acc : List Q0), left.length ≤ 300000 → left.length < n → acc.length ≤ 1000 →
  Ys N s0 l v1 b5 b7 v10 n left acc = some (Qmd (G4 (Zc (Ye m)) n left acc) fun vs => (⟨IntKind.i64.wrap (b7.toNat : Int), IntKind.i64.wrap v10, (s0.take (IntKind.i64.wrap (4 * IntKind.i64.wrap (b5.toNat : Int))).toNat).drop 8, vs⟩, v1.1, 0))
 | 0, left, acc, _, h, _ => by omega
 | n + 1, left, acc, hl, hn, ha => by
  simp only [Ys, Qd, J4, Ve, Wt, G4, hm]
  by_cases h0 : left = []
  ·rw [if_neg (by simp [h0]), if_pos h0, Qj4]
  rw [if_pos h0, if_neg h0]
  by_cases h3 : acc.length = 1000
  ·rw [if_pos (by omega), if_pos h3, Q2i _ (by decide)]; rfl
  rw [if_neg (by omega), if_neg h3, Qi7 m N left hm2 (by omega) hl]
  simp only [Option.bind_some]
  by_cases h4 : (Zc (Ye m) left).2.2 = 3
  ·rw [if_pos h4, if_pos h4, Q2i _ (by decide)]; rfl
  rw [if_neg h4, if_neg h4]
  by_cases h5 : (Zc (Ye m) left).2.2 = 0
  ·rw [if_neg (show ¬ ((Zc (Ye m) left).2.2 ≠ 0) by simp [h5]), if_neg (show ¬ ((Zc (Ye m) left).2.2 ≠ 0) by simp [h5])]
   have g1 := Q4e m left (by omega) h5
   have g2 := ((Un (Uq m)).1 left (by omega) h5).2.1
   have hp : 0 < left.length := List.length_pos_iff.2 h0
   rw [if_pos (by rw [Nat.ble_eq]; omega), if_pos (by simp; omega), if_pos (by simp [Nat.ble_eq]; omega), List.take_length]
   exact Q99 hN hm hm2 n _ _ (by rw [List.length_drop]; omega) (by rw [List.length_drop]; omega) (by simp; omega)
  ·rw [if_pos h5, if_pos (show (Zc (Ye m) left).2.2 ≠ 0 from h5), Q2i _ h5]; rfl
theorem Qjc {N : Nat} (hN : N = 800000000) (s : List UInt8) (l : Qe) (hs : s.length ≤ 600000) : U7 N s l = some (Zi s l) := by
 simp only [U7, Qdb hN, Option.bind_some, Qd, Wt, V0, Zi]
 by_cases he : (Xw s l).2 = 0
 ·rw [if_neg (show ¬ ((Xw s l).2 ≠ 0) from fun h => h he), if_neg (show ¬ ((Xw s l).2 ≠ 0) from fun h => h he)]
  obtain ⟨q1, q2, q3, q4, q5, q6, q7, q8⟩ := Q2o he
  obtain ⟨r1, r2, r3, r4⟩ := Q6b q1
  rw [q8]
  simp only []
  by_cases hl : s.length < Vo (s.take 4)
  ·rw [if_pos (by omega), if_pos hl]; rfl
  rw [if_neg (by omega), if_neg hl]
  obtain ⟨a0, a1, a2, a3, a4, a5, a6, a7, t, rfl⟩ := Qgm q2
  have i4 : idx (a0 :: a1 :: a2 :: a3 :: a4 :: a5 :: a6 :: a7 :: t) 4 = some a4 := rfl
  have i5 : idx (a0 :: a1 :: a2 :: a3 :: a4 :: a5 :: a6 :: a7 :: t) 5 = some a5 := rfl
  have e6 : ((a0 :: a1 :: a2 :: a3 :: a4 :: a5 :: a6 :: a7 :: t).take 8).drop 6 = [a6, a7] := rfl
  have e4 : (a0 :: a1 :: a2 :: a3 :: a4 :: a5 :: a6 :: a7 :: t).getD 4 0 = a4 := rfl
  have e5 : (a0 :: a1 :: a2 :: a3 :: a4 :: a5 :: a6 :: a7 :: t).getD 5 0 = a5 := rfl
  have b4 := a4.toNat_lt
  have b7 := Qr0 a6 a7
  rw [e4] at q5 q6
  have ew : IntKind.i64.wrap (4 * IntKind.i64.wrap (a4.toNat : Int)) = ((4 * a4.toNat : Nat) : Int) := by
   rw [Q9q, Zm _ (by omega)]; push_cast; rfl
  rw [i4, i5]
  simp only [Option.bind_some, ew, Int.toNat_natCast]
  rw [if_pos (by simp [Nat.ble_eq]), e6, Q6t N [a6, a7] (by simp) (by omega)]
  simp only [Option.bind_some]
  rw [if_pos (by rw [decide_eq_true_eq]; omega), if_pos (by simp only [Nat.ble_eq, Bool.and_eq_true]; omega), if_pos (by rw [decide_eq_true_eq]; omega), if_pos (by simp only [Nat.ble_eq, Bool.and_eq_true]; omega)]
  have hm : l.MaxDepth = ((l.MaxDepth.toNat : Nat) : Int) := by omega
  have hdl : (((a0 :: a1 :: a2 :: a3 :: a4 :: a5 :: a6 :: a7 :: t).take (Vo ((a0 :: a1 :: a2 :: a3 :: a4 :: a5 :: a6 :: a7 :: t).take 4))).drop (4 * a4.toNat)).length ≤ 600000 := by
   rw [List.length_drop, List.length_take]; omega
  rw [Qj2 hN hm (by omega) N _ _ hdl (by omega) (by simp)]
  unfold Q3x Q52
  rw [e4, e5, e6, Q3f (Q4e _) N (_ + 1) _ [] hdl (by rw [hN]; omega) (Nat.lt_succ_self _), ew, Q9q]
  simp only [Int.toNat_natCast, Zm ((Vo [a6, a7] : Nat) : Int) (by omega)]
 ·rw [if_pos he, if_pos he]; rfl
theorem Qcq {N : Nat} (hN : N = 800000000) (s : List UInt8) (l : Qe) (hs : s.length ≤ 300000) : Wj N s l = some (Zi s l) := by
 simp only [Wj, Qh2 hN, Option.bind_some, Qd, Wt, V0, Zi]
 by_cases he : (Xw s l).2 = 0
 ·rw [if_neg (show ¬ ((Xw s l).2 ≠ 0) from fun h => h he), if_neg (show ¬ ((Xw s l).2 ≠ 0) from fun h => h he)]
  obtain ⟨q1, q2, q3, q4, q5, q6, q7, q8⟩ := Q2o he
  obtain ⟨r1, r2, r3, r4⟩ := Q6b q1
  rw [q8]
  simp only []
  by_cases hl : s.length < Vo (s.take 4)
  ·rw [if_pos (by omega), if_pos hl]; rfl
  rw [if_neg (by omega), if_neg hl]
  obtain ⟨a0, a1, a2, a3, a4, a5, a6, a7, t, rfl⟩ := Qgm q2
  have i4 : idx (a0 :: a1 :: a2 :: a3 :: a4 :: a5 :: a6 :: a7 :: t) 4 = some a4 := rfl
  have i5 : idx (a0 :: a1 :: a2 :: a3 :: a4 :: a5 :: a6 :: a7 :: t) 5 = some a5 := rfl
  have e6 : ((a0 :: a1 :: a2 :: a3 :: a4 :: a5 :: a6 :: a7 :: t).take 8).drop 6 = [a6, a7] := rfl
  have e4 : (a0 :: a1 :: a2 :: a3 :: a4 :: a5 :: a6 :: a7 :: t).getD 4 0 = a4 := rfl
  have e5 : (a0 :: a1 :: a2 :: a3 :: a4 :: a5 :: a6 :: a7 :: t).getD 5 0 = a5 := rfl
  have b4 := a4.toNat_lt
  have b7 := Qr0 a6 a7
  rw [e4] at q5 q6
  have ew : IntKind.i64.wrap (4 * IntKind.i64.wrap (a4.toNat : Int)) = ((4 * a4.toNat : Nat) : Int) := by
   rw [Q9q, Zm _ (by omega)]; push_cast; rfl
  rw [i4, i5]
  simp only [Option.bind_some, ew, Int.toNat_natCast]
  rw [if_pos (by simp [Nat.ble_eq]), e6, Q9o N [a6, a7] (by simp) (by omega)]
  simp only [Option.bind_some]
  rw [if_pos (by rw [decide_eq_true_eq]; omega), if_pos (by simp only [Nat.ble_eq, Bool.and_eq_true]; omega), if_pos (by rw [decide_eq_true_eq]; omega), if_pos (by simp only [Nat.ble_eq, Bool.and_eq_true]; omega)]
  have hm : l.MaxDepth = ((l.MaxDepth.toNat : Nat) : Int) := by omega
  have hdl : (((a0 :: a1 :: a2 :: a3 :: a4 :: a5 :: a6 :: a7 :: t).take (Vo ((a0 :: a1 :: a2 :: a3 :: a4 :: a5 :: a6 :: a7 :: t).take 4))).drop (4 * a4.toNat)).length ≤ 300000 := by
   rw [List.length_drop, List.length_take]; omega
  rw [Q99 hN hm (by omega) N _ _ hdl (by omega) (by simp)]
  unfold Q3x Q52
  rw [e4, e5, e6, Q3f (Q4e _) N (_ + 1) _ [] (by omega) (by rw [hN]; omega) (Nat.lt_succ_self _), ew, Q9q]
  simp only [Int.toNat_natCast, Zm ((Vo [a6, a7] : Nat) : Int) (by omega)]
 ·rw [if_pos he, if_pos he]; rfl
end
end Go.Av
namespace Go.Av
noncomputable section
open Go.Proofs
set_option maxRecDepth 100000
theorem Q8y {rd : List UInt8 → Rd} (hg : ∀ s, s.length ≤ 600000 → (rd s).2.2 = 0 → 1 ≤ (rd s).2.1 ∧ (rd s).2.1 ≤ s.length ∧ (rd s).1.sz ≤ 1 + 1000 * (rd s).2.1.toNat) : ∀ (k : Nat) (s : List UInt8) (acc : List Q0), s.length ≤ 600000 → Q0.szs (G4 rd k s acc).1 ≤ Q0.szs acc + 1001 * s.length
 | 0, s, acc, _ => by simp [G4, Q0.szs]
 | k + 1, s, acc, hs => by
  rw [G4]
  split
  ·simp
  split
  ·simp [Q0.szs]
  split
  ·simp [Q0.szs]
  split
  ·simp [Q0.szs]
  rename_i h5
  obtain ⟨g1, g2, g3⟩ := hg s hs (Classical.byContradiction h5)
  have := Q8y hg k (s.drop (rd s).2.1.toNat) (acc ++ [(rd s).1]) (by rw [List.length_drop]; omega)
  rw [Q0.szs_app, List.length_drop] at this
  simp only [Q0.szs] at this
  omega
theorem Qj9 (m : Nat) : ∀ s : List UInt8, s.length ≤ 600000 → (Zc (Ye m) s).2.2 = 0 → 1 ≤ (Zc (Ye m) s).2.1 ∧ (Zc (Ye m) s).2.1 ≤ s.length ∧ (Zc (Ye m) s).1.sz ≤ 1 + 1000 * (Zc (Ye m) s).2.1.toNat := fun s hs he => by
 have h1 := (Un (Uq m)).1 s hs he
 exact ⟨Q4e m s hs he, h1.2.1, h1.2.2⟩
theorem Qje (s : List UInt8) (n : Nat) : (Q52 s n).length ≤ s.length := by
 unfold Q52
 rw [List.length_drop, List.length_take]; omega
theorem Qh1 (s : List UInt8) (n m : Nat) (hs : s.length ≤ 600000) : Q0.szs (Q3x s n m).1.Values ≤ 1001 * s.length := by
 have hb := Qje s n
 have := Q8y (Qj9 m) ((Q52 s n).length + 1) (Q52 s n) [] (by omega)
 unfold Q3x Qmd
 split
 ·simp [Qa1, Q0.szs]
 ·simp only [Q0.szs] at this
  show Q0.szs (G4 (Zc (Ye m)) ((Q52 s n).length + 1) (Q52 s n) []).1 ≤ _
  omega
theorem Qh9 (s : List UInt8) (l : Qe) (hs : s.length ≤ 600000) : Q0.szs (Zi s l).1.Values ≤ 1001 * s.length := by
 unfold Zi
 split
 ·simp [Qa1, Q0.szs]
 split
 ·simp [Qa1, Q0.szs]
 ·exact Qh1 s _ _ hs
end
end Go.Av
namespace Go.Av
noncomputable section
open Go.Proofs
set_option maxRecDepth 100000
theorem Qip {s s' : List UInt8} (l : Qe) (h : 8 ≤ s.length) (h' : 8 ≤ s'.length) (e : s.take 8 = s'.take 8) : Xw s l = Xw s' l := by
 obtain ⟨a0, a1, a2, a3, a4, a5, a6, a7, t, rfl⟩ := Qgm h
 obtain ⟨b0, b1, b2, b3, b4, b5, b6, b7, t', rfl⟩ := Qgm h'
 simp only [List.take_succ_cons, List.take_zero, List.cons.injEq, and_true] at e
 obtain ⟨rfl, rfl, rfl, rfl, rfl, rfl, rfl, rfl⟩ := e
 unfold Xw
 rw [if_neg (show ¬ (_ < 8) by simp), if_neg (show ¬ ((a0 :: a1 :: a2 :: a3 :: a4 :: a5 :: a6 :: a7 :: t').length < 8) by simp)]
 rfl
end
end Go.Av
namespace Go.Av
noncomputable section
open Go.Proofs
set_option maxRecDepth 100000
end
end Go.Av
namespace Go.Av
noncomputable section
open Go.Proofs
set_option maxRecDepth 100000
theorem Qbp {s : List UInt8} {l : Qe} (h8 : 8 ≤ s.length) (t : List UInt8) : Xw (s ++ t) l = Xw s l :=
 Qip l (by rw [List.length_append]; omega) h8 (by rw [List.take_append_of_le_length h8])
theorem Q8u {s : List UInt8} {l : Qe} (h : Wv l = false) : Xw s l = (0, 2) := by unfold Xw; rw [if_pos h]
theorem Qfp {s : List UInt8} {l : Qe} (h : Wv l = true) (h8 : s.length < 8) : Xw s l = (0, 3) := by unfold Xw; rw [if_neg (by simp [h]), if_pos h8]
theorem Qcz {s : List UInt8} {l : Qe} (h8 : 8 ≤ s.length) : (Xw s l).2 ≠ 3 := by
 unfold Xw
 split
 ·decide
 ·split
  ·omega
  ·split
   ·decide
   ·split
    ·decide
    ·split <;> simp
theorem Q78 {rd : List UInt8 → Rd} : ∀ (k : Nat) (s : List UInt8) (acc : List Q0), (G4 rd k s acc).2 ≠ 3
 | 0, _, _ => by unfold G4; decide
 | k + 1, s, acc => by
  unfold G4
  split
  ·simp
  ·split
   ·simp
   ·split
    ·simp
    ·split
     ·assumption
     ·exact Q78 k _ _
theorem Qg5 (s : List UInt8) (n m : Nat) : (Q3x s n m).2.2 ≠ 3 := by
 unfold Q3x Qmd
 split
 ·exact Q78 _ _ _
 ·simp
theorem Jm {s : List UInt8} {l : Qe} (hr : Wv l = true) : (Zi s l).2.2 = 3 ↔ s.length < 8 ∨ (Xw s l).2 = 0 ∧ s.length < Vo (s.take 4) := by
 unfold Zi
 by_cases h8 : s.length < 8
 ·rw [Qfp hr h8]; simp [h8]
 ·have h3 := Qcz (s := s) (l := l) (by omega)
  by_cases h0 : (Xw s l).2 = 0
  ·rw [if_neg (by simp [h0])]
   by_cases hn : s.length < Vo (s.take 4)
   ·rw [if_pos hn]; simp [h0, hn]
   ·rw [if_neg hn]; simp [h0, hn, h8, Qg5]
  ·rw [if_pos h0]; simp [h0, h8, h3]
theorem Q8s {s : List UInt8} {l : Qe} (hr : Wv l = false) : Zi s l = (Qa1, 0, 2) := by
 unfold Zi; rw [Q8u hr]; simp
theorem Qcj {s : List UInt8} {l : Qe} (h : (Zi s l).2.2 ≠ 3) (t : List UInt8) : Zi (s ++ t) l = Zi s l := by
 by_cases hr : Wv l = false
 ·rw [Q8s hr, Q8s hr]
 ·have hr' : Wv l = true := by simpa using hr
  have hs := (not_congr (Jm (s := s) hr')).1 h
  have h8 : 8 ≤ s.length := by omega
  have hh := Qbp (l := l) h8 t
  unfold Zi
  rw [hh]
  by_cases h0 : (Xw s l).2 = 0
  ·have hn : ¬ s.length < Vo (s.take 4) := fun hn => hs (.inr ⟨h0, hn⟩)
   have ht : (s ++ t).take 4 = s.take 4 := List.take_append_of_le_length (by omega)
   have hn' : Vo (s.take 4) ≤ s.length := by omega
   rw [ht, if_neg (show ¬ ((Xw s l).2 ≠ 0) from fun q => q h0), if_neg (show ¬ ((Xw s l).2 ≠ 0) from fun q => q h0), if_neg (by rw [List.length_append]; omega), if_neg hn]
   obtain ⟨_, _, _, _, _, q6, _, _⟩ := Q2o h0
   have e4 := (show (s ++ t).getD 4 0 = s.getD 4 0 by simp [List.getD, List.getElem?_append_left (show 4 < s.length by omega)])
   have e5 := (show (s ++ t).getD 5 0 = s.getD 5 0 by simp [List.getD, List.getElem?_append_left (show 5 < s.length by omega)])
   have eb : Q52 (s ++ t) (Vo (s.take 4)) = Q52 s (Vo (s.take 4)) := by
    unfold Q52; rw [e4, List.take_append_of_le_length hn']
   unfold Q3x
   rw [eb, e4, e5, List.take_append_of_le_length h8, List.take_append_of_le_length (show 4 * (s.getD 4 0).toNat ≤ s.length by omega)]
  ·rw [if_pos h0, if_pos h0]
noncomputable def Q1t (l : Qe) : Nat → List UInt8 → List Q9 → Int → List Q9 × List UInt8 × Int × Int
 | 0, s, acc, p => (acc, s, p, 0)
 | k + 1, s, acc, p => if (Zi s l).2.2 = 3 then (acc, s, p, 0) else if (Zi s l).2.2 ≠ 0 then (acc, [], p, (Zi s l).2.2)
  else Q1t l k (s.drop (Zi s l).2.1.toNat) (acc ++ [(Zi s l).1]) (p + (Zi s l).2.1)
theorem Q0i {l : Qe} {s : List UInt8} (h : (Zi s l).2.2 = 3) (k : Nat) (acc : List Q9) (p : Int) : Q1t l k s acc p = (acc, s, p, 0) := by
 cases k with
 | zero => rfl
 | succ k => unfold Q1t; rw [if_pos h]
theorem Q1w {l : Qe} {s : List UInt8} (h3 : (Zi s l).2.2 ≠ 3) (h0 : (Zi s l).2.2 ≠ 0) (k : Nat) (acc : List Q9) (p : Int) : Q1t l (k + 1) s acc p = (acc, [], p, (Zi s l).2.2) := by
 conv => lhs; unfold Q1t
 rw [if_neg h3, if_pos h0]
theorem Q4n {l : Qe} {s : List UInt8} (h0 : (Zi s l).2.2 = 0) (k : Nat) (acc : List Q9) (p : Int) : Q1t l (k + 1) s acc p = Q1t l k (s.drop (Zi s l).2.1.toNat) (acc ++ [(Zi s l).1]) (p + (Zi s l).2.1) := by
 conv => lhs; unfold Q1t
 rw [if_neg (by omega), if_neg (by simp [h0])]
theorem Jv {s : List UInt8} {l : Qe} (h : (Zi s l).2.2 = 0) : 8 ≤ (Zi s l).2.1 ∧ (Zi s l).2.1 ≤ s.length ∧ (Zi s l).2.1 ≤ l.MaxPacket ∧ Wv l = true := by
 have hh : (Xw s l).2 = 0 := by
  unfold Zi at h
  split at h
  ·exact h
  ·rename_i hq; exact Classical.byContradiction hq
 obtain ⟨q1, q2, q3, q4, q5, q6, q7, q8⟩ := Q2o hh
 unfold Zi at h ⊢
 rw [if_neg (show ¬ ((Xw s l).2 ≠ 0) from fun h => h hh)] at h ⊢
 split at h
 ·cases h
 ·rename_i hn
  rw [if_neg hn]
  unfold Q3x Qmd at h ⊢
  split at h
  ·rename_i hx; exact absurd h hx
  ·rename_i hx
   rw [if_neg hx]
   exact ⟨by simp only []; omega, by simp only []; omega, by simp only []; omega, q1⟩
theorem Q8r {l : Qe} : ∀ (k k' : Nat) (s : List UInt8) (acc : List Q9) (p : Int), s.length < k → s.length < k' → Q1t l k s acc p = Q1t l k' s acc p
 | 0, _, _, _, _, h, _ => by omega
 | _, 0, _, _, _, _, h => by omega
 | k + 1, k' + 1, s, acc, p, h, h' => by
  by_cases h3 : (Zi s l).2.2 = 3
  ·rw [Q0i h3, Q0i h3]
  ·by_cases h0 : (Zi s l).2.2 = 0
   ·obtain ⟨q1, q2, _⟩ := Jv h0
    rw [Q4n h0, Q4n h0]
    exact Q8r k k' _ _ _ (by rw [List.length_drop]; omega) (by rw [List.length_drop]; omega)
   ·rw [Q1w h3 h0, Q1w h3 h0]
theorem Q88 {l : Qe} : ∀ (k : Nat) (s : List UInt8) (acc : List Q9) (p : Int), Q1t l k s acc p = (acc ++ (Q1t l k s [] 0).1, (Q1t l k s [] 0).2.1, p + (Q1t l k s [] 0).2.2.1, (Q1t l k s [] 0).2.2.2)
 | 0, s, acc, p => by simp [Q1t]
 | k + 1, s, acc, p => by
  by_cases h3 : (Zi s l).2.2 = 3
  ·rw [Q0i h3, Q0i h3]; simp
  ·by_cases h0 : (Zi s l).2.2 = 0
   ·rw [Q4n h0, Q4n h0, Q88 k _ (acc ++ [(Zi s l).1]), Q88 k _ ([] ++ [(Zi s l).1])]
    simp only [List.append_assoc, List.nil_append, Int.add_assoc, Int.zero_add]
   ·rw [Q1w h3 h0, Q1w h3 h0]; simp
noncomputable def Qm (l : Qe) (s : List UInt8) : List Q9 × List UInt8 × Int × Int := Q1t l (s.length + 1) s [] 0
theorem Qhg {l : Qe} {s : List UInt8} (k : Nat) (h : s.length < k) (acc : List Q9) (p : Int) : Q1t l k s acc p = (acc ++ (Qm l s).1, (Qm l s).2.1, p + (Qm l s).2.2.1, (Qm l s).2.2.2) := by
 rw [Q8r k (s.length + 1) s acc p h (by omega), Q88]; rfl
theorem Vl {l : Qe} {s : List UInt8} (h : (Zi s l).2.2 = 3) : Qm l s = ([], s, 0, 0) := Q0i h _ _ _
theorem Jl {l : Qe} {s : List UInt8} (h3 : (Zi s l).2.2 ≠ 3) (h0 : (Zi s l).2.2 ≠ 0) : Qm l s = ([], [], 0, (Zi s l).2.2) := Q1w h3 h0 _ _ _
theorem Q0d {l : Qe} {s : List UInt8} (h0 : (Zi s l).2.2 = 0) : Qm l s = ((Zi s l).1 :: (Qm l (s.drop (Zi s l).2.1.toNat)).1, (Qm l (s.drop (Zi s l).2.1.toNat)).2.1, (Zi s l).2.1 + (Qm l (s.drop (Zi s l).2.1.toNat)).2.2.1, (Qm l (s.drop (Zi s l).2.1.toNat)).2.2.2) := by
 obtain ⟨q1, q2, _⟩ := Jv h0
 unfold Qm
 rw [Q4n h0, Qhg _ (by rw [List.length_drop]; omega)]
 simp [Qm]
theorem Gr {l : Qe} (hr : Wv l = true) : ∀ (n : Nat) (s : List UInt8), s.length ≤ n →
  ((Qm l s).2.2.2 ≠ 0 ∧ (Qm l s).2.1 = [] ∨ (Qm l s).2.2.2 = 0 ∧ (Zi (Qm l s).2.1 l).2.2 = 3 ∧ (Qm l s).2.2.1 + (Qm l s).2.1.length = s.length) ∧ 0 ≤ (Qm l s).2.2.1 ∧ (Qm l s).2.2.1 ≤ s.length ∧ (Qm l s).2.2.2 ≠ 3
 | 0, s, hn => by
  have h3 : (Zi s l).2.2 = 3 := (Jm hr).2 (.inl (by omega))
  rw [Vl h3]; simp [h3]
 | n + 1, s, hn => by
  by_cases h3 : (Zi s l).2.2 = 3
  ·rw [Vl h3]; simp [h3]
  ·by_cases h0 : (Zi s l).2.2 = 0
   ·obtain ⟨q1, q2, _⟩ := Jv h0
    rw [Q0d h0]
    obtain ⟨a, b, c, d⟩ := Gr hr n (s.drop (Zi s l).2.1.toNat) (by rw [List.length_drop]; omega)
    rw [List.length_drop] at a c
    refine ⟨?_, by simp only []; omega, by simp only []; omega, d⟩
    rcases a with a | ⟨a1, a2, a3⟩
    ·exact .inl a
    ·exact .inr ⟨a1, a2, by simp only []; omega⟩
   ·rw [Jl h3 h0]; simp [h0, h3]
theorem Q4r {l : Qe} (t : List UInt8) : ∀ (n : Nat) (s : List UInt8), s.length ≤ n → Qm l (s ++ t) = if (Qm l s).2.2.2 ≠ 0 then Qm l s else
  ((Qm l s).1 ++ (Qm l ((Qm l s).2.1 ++ t)).1, (Qm l ((Qm l s).2.1 ++ t)).2.1, (Qm l s).2.2.1 + (Qm l ((Qm l s).2.1 ++ t)).2.2.1, (Qm l ((Qm l s).2.1 ++ t)).2.2.2)
 | n, s, hn => by
  by_cases h3 : (Zi s l).2.2 = 3
  ·rw [Vl h3]; simp
  ·have hm := Qcj h3 t
   by_cases h0 : (Zi s l).2.2 = 0
   ·obtain ⟨q1, q2, _⟩ := Jv h0
    match n, hn with
    | 0, hn => omega
    | n + 1, hn =>
     have ih := Q4r (l := l) t n (s.drop (Zi s l).2.1.toNat) (by rw [List.length_drop]; omega)
     have h0' : (Zi (s ++ t) l).2.2 = 0 := by rw [hm]; exact h0
     rw [Q0d h0', hm, List.drop_append_of_le_length (by omega), ih, Q0d h0]
     simp only []
     by_cases he : (Qm l (s.drop (Zi s l).2.1.toNat)).2.2.2 = 0
     ·rw [if_neg (by simp [he]), if_neg (by simp [he])]
      simp [Int.add_assoc]
     ·rw [if_pos he, if_pos he]
   ·have h0' : (Zi (s ++ t) l).2.2 ≠ 0 := by rw [hm]; exact h0
    rw [Jl (by rw [hm]; exact h3) h0', hm, Jl h3 h0]
    simp [h0]
end
end Go.Av
namespace Go.Av
noncomputable section
open Go.Proofs
set_option maxRecDepth 100000
abbrev Qm5 := Q5
theorem Qfu (s : List UInt8) (a b : Nat) : (((Q3m s : List Int).drop a).take b).map (fun n => UInt8.ofNat n.toNat) = (s.drop a).take b := by
 simp only [Q3m, ← List.map_drop, ← List.map_take]
 exact Qis _
theorem Qil {N : Nat} (hN : N = 800000000) (l : Qe) (s : List UInt8) (i : Nat) (hi : i ≤ s.length) (p need e : Int) (q : Nat) (out : List Q9) :
  Y3 N ⟨l, Q3m s, (i : Int), p, need, e, q, out⟩ = some (if (s.drop i).length < 8 then (false, ⟨l, Q3m s, (i : Int), p, need, e, q, out⟩)
   else if (Xw (s.drop i) l).2 ≠ 0 then (false, ⟨l, [], 0, p, 0, (Xw (s.drop i) l).2, q, out⟩) else (true, ⟨l, Q3m s, (i : Int), p, (Xw (s.drop i) l).1, e, Zs, out⟩)) := by
 simp only [Y3, Qd, V0, Wt, Q03, Int.toNat_natCast]
 rw [if_pos (by simp), if_pos (by simp [Nat.ble_eq]; exact hi), List.length_drop]
 by_cases h : s.length - i < 8
 ·rw [if_pos (by omega), if_pos h]
 ·rw [if_neg (by omega), if_neg h, if_pos (by simp [Nat.ble_eq]; omega), Qfu, Qdb hN]
  simp only [Option.bind_some, Nat.zero_add, Nat.mul_one]
  have e8 : Xw ((s.drop i).take 8) l = Xw (s.drop i) l := Qip l (by rw [List.length_take, List.length_drop]; omega) (by rw [List.length_drop]; omega) (by rw [List.take_take]; rfl)
  rw [e8]
  by_cases he : (Xw (s.drop i) l).2 = 0
  ·rw [if_neg (show ¬ ((Xw (s.drop i) l).2 ≠ 0) from fun k => k he), if_neg (show ¬ ((Xw (s.drop i) l).2 ≠ 0) from fun k => k he)]
  ·rw [if_pos (show (Xw (s.drop i) l).2 ≠ 0 from he), if_pos (show (Xw (s.drop i) l).2 ≠ 0 from he)]
   simp only [Yv, Option.bind_some]
theorem Qn3 {α : Type} (l : List α) (a b : α) : (l ++ [a]).set l.length b = l ++ [b] := by simp
theorem Qmz {α : Type} (l : List α) (a : α) : idx (l ++ [a]) (l.length : Int) = some a := by simp [idx]
theorem Qi9 {N : Nat} (hN : N = 800000000) {l : Qe} {s : List UInt8} {i : Nat} (hi : i ≤ s.length) (hs : s.length ≤ 300000) {p need : Int} (e : Int) (q : Nat) {out : List Q9} (hp : 0 ≤ p ∧ p ≤ 1000000000000) (ho : out.length ≤ 300000)
  (hd : Xw (s.drop i) l = (need, 0)) : Y4 N ⟨l, Q3m s, (i : Int), p, need, e, q, out⟩ = some (if (Zi (s.drop i) l).2.2 = 3 then (false, ⟨l, Q3m s, (i : Int), p, need, e, q, out⟩)
   else if (Zi (s.drop i) l).2.2 ≠ 0 then (false, ⟨l, [], 0, p, 0, (Zi (s.drop i) l).2.2, q, out⟩)
   else (true, ⟨l, Q3m s, ((i + (Zi (s.drop i) l).2.1.toNat : Nat) : Int), p + (Zi (s.drop i) l).2.1, need, e, Qw, out ++ [(Zi (s.drop i) l).1]⟩)) := by
 obtain ⟨q1, q2, q3, q4, q5, q6, q7, q8⟩ := Q2o (show (Xw (s.drop i) l).2 = 0 by rw [hd])
 rw [hd] at q8
 have hnd : need = (Vo ((s.drop i).take 4) : Int) := by
  have := congrArg Prod.fst q8
  simpa using this
 have hsh := Jm (s := s.drop i) q1
 rw [hd] at hsh
 have hL : (s.drop i).length = s.length - i := List.length_drop
 rw [hL] at q2
 simp only [Y4, Qd, V0, Wt, Q03, Int.toNat_natCast]
 rw [if_pos (by simp), if_pos (by simp [Nat.ble_eq]; exact hi)]
 by_cases h : s.length - i < Vo ((s.drop i).take 4)
 ·rw [if_pos (by omega), if_pos (hsh.2 (.inr ⟨rfl, by rw [hL]; exact h⟩))]
 ·have h3 : (Zi (s.drop i) l).2.2 ≠ 3 := fun k => by
   rcases hsh.1 k with k | ⟨_, k⟩ <;> rw [hL] at k <;> omega
  have ht : need.toNat = Vo ((s.drop i).take 4) := by rw [hnd]; simp
  have hrd : Zi ((s.drop i).take need.toNat) l = Zi (s.drop i) l := by
   have hh : Xw ((s.drop i).take need.toNat) l = Xw (s.drop i) l := Qip l (by rw [List.length_take, hL]; omega) (by rw [hL]; omega) (by rw [List.take_take]; congr 1; omega)
   have h4 : ((s.drop i).take need.toNat).take 4 = (s.drop i).take 4 := by rw [List.take_take]; congr 1; omega
   have hk : (Zi ((s.drop i).take need.toNat) l).2.2 ≠ 3 := fun k => by
    rcases (Jm q1).1 k with k | ⟨_, k⟩
    ·rw [List.length_take, hL] at k; omega
    ·rw [h4, List.length_take, hL] at k; omega
   have := Qcj hk ((s.drop i).drop need.toNat)
   rw [List.take_append_drop] at this
   exact this.symm
  rw [if_neg (by omega), if_neg h3, if_pos (by rw [decide_eq_true_eq]; omega), if_pos (by simp [Nat.ble_eq]; omega), Qfu]
  simp only [Nat.zero_add, Nat.mul_one]
  rw [Qjc hN _ _ (by rw [List.length_take, hL]; omega), hrd]
  simp only [Option.bind_some]
  by_cases he : (Zi (s.drop i) l).2.2 = 0
  ·obtain ⟨m1, m2, m3, m4⟩ := Jv he
   rw [hL] at m2
   rw [if_neg (show ¬ ((Zi (s.drop i) l).2.2 ≠ 0) from fun k => k he), if_neg (show ¬ ((Zi (s.drop i) l).2.2 ≠ 0) from fun k => k he), if_pos (by rw [Nat.ble_eq]; omega), Qmz]
   simp only [Option.bind_some, Qn3]
   rw [Zm _ (by omega), Zm _ (by omega)]
   congr 4
   omega
  ·rw [if_pos (show (Zi (s.drop i) l).2.2 ≠ 0 from he), if_pos (show (Zi (s.drop i) l).2.2 ≠ 0 from he)]
   simp only [Yv, Option.bind_some]
def Qq3 (x : Qm5) : Option ((List Q9 × Int) × Qm5) :=
  cond (Q7 .gtr x.from' 0)
  (cond (decide (0 ≤ x.from')) (cond (Nat.ble x.from'.toNat x.kept.length && Nat.ble x.kept.length x.kept.length) (cond (Nat.ble 1 x.kept.length) (cond (Nat.ble 0 (((((x.kept : List Int).drop (0 + x.from'.toNat * 1)).take (x.kept.length - x.from'.toNat)).take x.kept.length).length) && Nat.ble (((((x.kept : List Int).drop (0 + x.from'.toNat * 1)).take (x.kept.length - x.from'.toNat)).take x.kept.length).length) x.kept.length) (some ((x.out, x.e), (⟨x.l, (((((((x.kept : List Int).drop (0 + x.from'.toNat * 1)).take (x.kept.length - x.from'.toNat)).take x.kept.length) ++ (x.kept : List Int).drop ((((x.kept : List Int).drop (0 + x.from'.toNat * 1)).take (x.kept.length - x.from'.toNat)).take x.kept.length).length) : List Int).take (((((x.kept : List Int).drop (0 + x.from'.toNat * 1)).take (x.kept.length - x.from'.toNat)).take x.kept.length).length)), 0, x.at', x.need, x.e, x.next, []⟩ : Q5))) none) none) none) none)
  (some ((x.out, x.e), (⟨x.l, x.kept, x.from', x.at', x.need, x.e, x.next, []⟩ : Q5)))
theorem Q9w (l : Qe) (s : List UInt8) (i : Nat) (hi : i ≤ s.length) (p need e : Int) (q : Nat) (out : List Q9) : Qq3 ⟨l, Q3m s, (i : Int), p, need, e, q, out⟩ = some ((out, e), ⟨l, Q3m (s.drop i), 0, p, need, e, q, []⟩) := by
 simp only [Qq3, Qd, Q1g, Q03, Int.toNat_natCast, Nat.zero_add, Nat.mul_one]
 by_cases h0 : i = 0
 ·subst h0
  rw [if_neg (by simp)]; rfl
 ·have e1 : ((Q3m s).drop i).take (s.length - i) = Q3m (s.drop i) := by
   rw [List.take_of_length_le (by rw [List.length_drop, Q03]; omega)]
   simp [Q3m]
  have e2 : (Q3m (s.drop i)).take s.length = Q3m (s.drop i) := List.take_of_length_le (by rw [Q03, List.length_drop]; omega)
  rw [if_pos (by omega), if_pos (by simp), if_pos (by simp [Nat.ble_eq]; exact hi), if_pos (by rw [Nat.ble_eq]; omega), e1, e2, if_pos (by simp [Nat.ble_eq, Q03]), List.take_left]
theorem Qo9 (N n : Nat) (l : Qe) (i p need e : Int) (q : Nat) (k : List Int) (out : List Q9) : Qq N (n + 1) l.MaxPacket l.MaxDepth i p need e q k out =
  cond (Nat.beq q Qw) ((Y3 N ⟨l, k, i, p, need, e, Qw, out⟩).bind fun v => cond v.1 (Qq N n v.2.l.MaxPacket v.2.l.MaxDepth v.2.from' v.2.at' v.2.need v.2.e v.2.next v.2.kept v.2.out) (Qq3 v.2))
  (cond (Nat.beq q Zs) ((Y4 N ⟨l, k, i, p, need, e, Zs, out⟩).bind fun v => cond v.1 (Qq N n v.2.l.MaxPacket v.2.l.MaxDepth v.2.from' v.2.at' v.2.need v.2.e v.2.next v.2.kept v.2.out) (Qq3 v.2)) none) := rfl
theorem Qqu (N : Nat) : Zq N = Qq N := by
 funext n
 induction n with
 | zero => rfl
 | succ n ih =>
  funext a b c d e f q k o
  simp only [Qq, Zq, ih]
def Qls (l : Qe) (s : List UInt8) (need : Int) (q : Nat) : Prop := q = Qw ∨ q = Zs ∧ Xw s l = (need, 0)
theorem Q5b {N : Nat} (hN : N = 800000000) {l : Qe} (hr : Wv l = true) {s : List UInt8} (hs : s.length ≤ 300000) : ∀ (n i : Nat) (p need : Int) (q : Nat) (out : List Q9), i ≤ s.length → Qls l (s.drop i) need q →
  2 * (s.length - i) + (if q = Qw then 2 else 1) ≤ n → 0 ≤ p → p + (s.length - i : Nat) ≤ 1000000000000 → out.length + (s.length - i) ≤ 300000 →
  ∃ need' q', ((Qm l (s.drop i)).2.2.2 = 0 → Qls l (Qm l (s.drop i)).2.1 need' q') ∧ Qq N n l.MaxPacket l.MaxDepth (i : Int) p need 0 q (Q3m s) out =
   some ((out ++ (Qm l (s.drop i)).1, (Qm l (s.drop i)).2.2.2), ⟨l, Q3m (Qm l (s.drop i)).2.1, 0, p + (Qm l (s.drop i)).2.2.1, need', (Qm l (s.drop i)).2.2.2, q', []⟩)
 | 0, i, p, need, q, out, _, _, h, _, _, _ => by split at h <;> omega
 | n + 1, i, p, need, q, out, hi, hw, hn, hp, hp2, ho => by
  have hL : (s.drop i).length = s.length - i := List.length_drop
  rw [Qo9]
  rcases hw with rfl | ⟨rfl, hd⟩
  ·rw [Qil hN l s i hi]
   simp only [Qd, Option.bind_some]
   rw [if_pos (show Nat.beq Qw Qw = true from rfl)]
   rw [if_pos rfl] at hn
   by_cases h8 : (s.drop i).length < 8
   ·have h3 : (Zi (s.drop i) l).2.2 = 3 := (Jm hr).2 (.inl h8)
    rw [if_pos h8, if_neg (by simp), Vl h3, Q9w l s i hi]
    exact ⟨need, _, fun _ => .inl rfl, by simp⟩
   ·rw [if_neg h8]
    by_cases h0 : (Xw (s.drop i) l).2 = 0
    ·rw [if_neg (show ¬ ((Xw (s.drop i) l).2 ≠ 0) from fun k => k h0)]
     simp only [if_true]
     exact Q5b hN hr hs n i p _ _ out hi (.inr ⟨rfl, Prod.ext rfl h0⟩) (by rw [if_neg (by decide)]; omega) hp hp2 ho
    ·have hre : Zi (s.drop i) l = (Qa1, 0, (Xw (s.drop i) l).2) := by unfold Zi; rw [if_pos h0]
     have h3 : (Xw (s.drop i) l).2 ≠ 3 := Qcz (by omega)
     rw [if_pos (show (Xw (s.drop i) l).2 ≠ 0 from h0), if_neg (by simp), Jl (by rw [hre]; exact h3) (by rw [hre]; exact h0), hre]
     refine ⟨0, Qw, fun k => absurd k h0, ?_⟩
     simp only []
     rw [show ([] : List Int) = Q3m [] from rfl, show (0 : Int) = ((0 : Nat) : Int) from rfl, Q9w l [] 0 (Nat.le_refl _)]
     simp
  ·rw [Qi9 hN hi hs 0 _ (by omega) (by omega) hd]
   simp only [Qd, Option.bind_some]
   rw [if_neg (show ¬ Nat.beq Zs Qw = true by decide), if_pos (show Nat.beq Zs Zs = true from rfl)]
   rw [if_neg (by decide)] at hn
   by_cases h3 : (Zi (s.drop i) l).2.2 = 3
   ·rw [if_pos h3, if_neg (by simp), Vl h3, Q9w l s i hi]
    exact ⟨need, _, fun _ => .inr ⟨rfl, hd⟩, by simp⟩
   ·rw [if_neg h3]
    by_cases h0 : (Zi (s.drop i) l).2.2 = 0
    ·obtain ⟨m1, m2, m3, m4⟩ := Jv h0
     rw [hL] at m2
     rw [if_neg (show ¬ ((Zi (s.drop i) l).2.2 ≠ 0) from fun k => k h0)]
     simp only [if_true]
     obtain ⟨need', q', w, ih⟩ := Q5b hN hr hs n (i + (Zi (s.drop i) l).2.1.toNat) (p + (Zi (s.drop i) l).2.1) need Qw (out ++ [(Zi (s.drop i) l).1]) (by omega) (.inl rfl) (by rw [if_pos rfl]; omega) (by omega) (by omega) (by rw [List.length_append]; simp only [List.length_cons, List.length_nil]; omega)
     rw [ih, Q0d h0, List.drop_drop]
     exact ⟨need', q', w, by simp [Int.add_assoc]⟩
    ·rw [if_pos (show (Zi (s.drop i) l).2.2 ≠ 0 from h0), if_neg (by simp), Jl h3 h0]
     refine ⟨0, Zs, fun k => absurd k h0, ?_⟩
     simp only []
     rw [show ([] : List Int) = Q3m [] from rfl, show (0 : Int) = ((0 : Nat) : Int) from rfl, Q9w l [] 0 (Nat.le_refl _)]
     simp
structure Qlt (x : Qm5) (l : Qe) (s : List UInt8) (p e : Int) : Prop where
 lim : x.l = l
 kept : x.kept = Q3m s
 frm : x.from' = 0
 plc : x.at' = p
 err : x.e = e
 none : x.out = []
 bad : e ≠ 0 → s = []
 Qq7 : e = 0 → (Zi s l).2.2 = 3
 waits : e = 0 → Qls l s x.need x.next
theorem Qkq {N : Nat} {x : Qm5} {l : Qe} {s : List UInt8} {p e : Int} (h : Qlt x l s p e) (he : e ≠ 0) (c : List UInt8) : Qx N x c = some (([], e), x) := by
 simp only [Qx, Qd, Wt, h.err]
 rw [if_pos he]
theorem Qne {N : Nat} (hN : N = 800000000) {x : Qm5} {l : Qe} (hr : Wv l = true) {s : List UInt8} {p : Int} (h : Qlt x l s p 0) (c : List UInt8) (hs : s.length + c.length ≤ 100000) (hp : 0 ≤ p) (hp2 : p + s.length + c.length ≤ 1000000000000) :
  ∃ x', Qx N x c = some (((Qm l (s ++ c)).1, (Qm l (s ++ c)).2.2.2), x') ∧ Qlt x' l (Qm l (s ++ c)).2.1 (p + (Qm l (s ++ c)).2.2.1) (Qm l (s ++ c)).2.2.2 := by
 obtain ⟨xl, xk, xf, xa, xn, xe, xq, xo⟩ := x
 obtain ⟨h1, h2, h3, h4, h5, h6, h7, h8, h9⟩ := h
 simp only [] at h1 h2 h3 h4 h5 h6 h9
 subst h1 h2 h3 h4 h5 h6
 have hw : Qls xl (s ++ c) xn xq := by
  rcases h9 (by simp) with q | ⟨q, hd⟩
  ·exact .inl q
  ·refine .inr ⟨q, ?_⟩
   obtain ⟨_, q2, _⟩ := Q2o (show (Xw s xl).2 = 0 by rw [hd])
   rw [Qbp q2]; exact hd
 have key : ∀ k : List Int, k = Q3m (s ++ c) → ∃ x', Qq N N xl.MaxPacket xl.MaxDepth 0 xa xn 0 xq k [] = some (((Qm xl (s ++ c)).1, (Qm xl (s ++ c)).2.2.2), x') ∧ Qlt x' xl (Qm xl (s ++ c)).2.1 (xa + (Qm xl (s ++ c)).2.2.1) (Qm xl (s ++ c)).2.2.2 := fun k hk => by
  subst hk
  have hlen : (s ++ c).length = s.length + c.length := List.length_append
  obtain ⟨need', q', w, ih⟩ := Q5b hN hr (s := s ++ c) (by omega) N 0 xa xn xq [] (Nat.zero_le _) hw (by subst hN; split <;> omega) hp (by simp only [Nat.sub_zero]; omega) (by simp only [List.length_nil, Nat.sub_zero]; omega)
  rw [List.drop_zero] at ih w
  refine ⟨_, ih, rfl, rfl, rfl, rfl, rfl, rfl, fun hb => ?_, fun h0 => ?_, fun h0 => w h0⟩
  ·rcases (Gr hr _ (s ++ c) (Nat.le_refl _)).1 with ⟨_, b⟩ | ⟨b, _⟩
   ·exact b
   ·exact absurd b hb
  ·rcases (Gr hr _ (s ++ c) (Nat.le_refl _)).1 with ⟨b, _⟩ | ⟨_, b, _⟩
   ·exact absurd h0 b
   ·exact b
 simp only [Qx, Qd, Wt]
 rw [if_neg (by simp)]
 by_cases hc : c = []
 ·subst hc
  rw [if_pos (show Nat.beq ([] : List UInt8).length 0 = true from rfl)]
  exact key _ (by simp)
 ·rw [if_neg (by cases c with
   | nil => exact absurd rfl hc
   | cons => simp [Nat.beq_eq]), if_pos (by rw [Nat.ble_eq, Q03]; omega), Qqu]
  exact key _ (by rw [Qov, Qlc])
end
end Go.Av
namespace Go.Av
noncomputable section
open Go.Proofs
set_option maxRecDepth 100000
theorem Qn8 : Xz 800000000 = some true := by decide +kernel
theorem Qmq (l : Qe) (hr : Wv l = true) : Qlt ⟨l, [], 0, 0, 0, 0, Qw, []⟩ l (Qm l []).2.1 (Qm l []).2.2.1 (Qm l []).2.2.2 := by
 have h3 : (Zi [] l).2.2 = 3 := (Jm hr).2 (.inl (by simp))
 rw [Vl h3]
 exact ⟨rfl, rfl, rfl, rfl, rfl, rfl, fun _ => rfl, fun _ => h3, fun _ => .inl rfl⟩
theorem Q7z (l : Qe) (hr : Wv l = true) : Qm l [] = ([], [], 0, 0) := Vl ((Jm hr).2 (.inl (by simp)))
theorem Qcy {N : Nat} (hN : N = 800000000) {x : Qm5} {l : Qe} (hr : Wv l = true) {t : List UInt8} (h : Qlt x l (Qm l t).2.1 (Qm l t).2.2.1 (Qm l t).2.2.2) (c : List UInt8) (hs : t.length + c.length ≤ 100000) :
  ∃ fs x', Qx N x c = some ((fs, (Qm l (t ++ c)).2.2.2), x') ∧ Qlt x' l (Qm l (t ++ c)).2.1 (Qm l (t ++ c)).2.2.1 (Qm l (t ++ c)).2.2.2 ∧ (Qm l t).1 ++ fs = (Qm l (t ++ c)).1 ∧ ((Qm l t).2.2.2 = 0 → fs = (Qm l ((Qm l t).2.1 ++ c)).1) := by
 have ha := Q4r (l := l) c _ t (Nat.le_refl _)
 by_cases he : (Qm l t).2.2.2 = 0
 ·rw [if_neg (show ¬ ((Qm l t).2.2.2 ≠ 0) from fun k => k he)] at ha
  rw [he] at h
  have hd := Gr hr _ t (Nat.le_refl _)
  have hl : (Qm l t).2.2.1 + (Qm l t).2.1.length = t.length := by
   rcases hd.1 with ⟨b, _⟩ | ⟨_, _, b⟩
   ·exact absurd he b
   ·exact b
  obtain ⟨x', h1, h2⟩ := Qne hN hr h c (by omega) hd.2.1 (by omega)
  rw [ha]
  exact ⟨_, x', h1, h2, rfl, fun _ => rfl⟩
 ·rw [if_pos he] at ha
  rw [ha]
  exact ⟨[], x, Qkq h he c, h, by simp, fun k => absurd k he⟩
theorem Qfw {N : Nat} (hN : N = 800000000) (l : Qe) : X2 N [] l = some (if Wv l = true then (0, 3) else (0, 2)) := by
 rw [Qdb hN]
 by_cases hr : Wv l = true
 ·rw [if_pos hr, Qfp hr (by simp)]
 ·rw [if_neg hr, Q8u (by simpa using hr)]
theorem Qqz {N : Nat} {x : Qm5} {l : Qe} {s : List UInt8} {p e : Int} (h : Qlt x l s p e) : W2 N x = some (p, x) := by
 simp only [W2, h.plc]
theorem Q35 {l : Qe} : ∀ (n : Nat) (s : List UInt8), s.length ≤ n → s.length ≤ 100000 → 8 * (Qm l s).1.length ≤ s.length ∧ ∀ f ∈ (Qm l s).1, Q0.szs f.Values ≤ 1001 * 100000
 | n, s, hn, hs => by
  by_cases h3 : (Zi s l).2.2 = 3
  ·rw [Vl h3]; simp
  ·by_cases h0 : (Zi s l).2.2 = 0
   ·obtain ⟨q1, q2, _⟩ := Jv h0
    match n, hn with
    | 0, hn => omega
    | n + 1, hn =>
     have ih := Q35 (l := l) n (s.drop (Zi s l).2.1.toNat) (by rw [List.length_drop]; omega) (by rw [List.length_drop]; omega)
     rw [Q0d h0]
     refine ⟨by have := ih.1; rw [List.length_drop] at this; simp only [List.length_cons]; omega, fun f hf => ?_⟩
     rcases List.mem_cons.1 hf with rfl | hf
     ·have := Qh9 s l (by omega)
      omega
     ·exact ih.2 f hf
   ·rw [Jl h3 h0]; simp
theorem Qik {α : Type} [DecidableEq α] (l m : List α) (i : Nat) (h : i < l.length) (h' : i < m.length) : decide (l.drop i = m.drop i) = (decide (l[i] = m[i]) && decide (l.drop (i + 1) = m.drop (i + 1))) := by
 rw [Bool.eq_iff_iff]
 simp only [decide_eq_true_eq, Bool.and_eq_true]
 rw [List.drop_eq_getElem_cons h, List.drop_eq_getElem_cons h', List.cons.injEq]
theorem Qbv {N : Nat} (hN : N = 800000000) {a b : List Q9} (ha : ∀ f ∈ a, Q0.szs f.Values < 700000000) (hl : a.length = b.length) (hs : a.length < 100000000) : ∀ (n i : Nat), i ≤ a.length → a.length - i < n → Y0 N a b n (i : Int) = some (decide (a.drop i = b.drop i))
 | 0, i, _, h => by omega
 | n + 1, i, hi, hn => by
  simp only [Y0, Qd, V0, Vh]
  by_cases h : i < a.length
  ·have ih := Qbv hN ha hl hs n (i + 1) (by omega) (by omega)
   rw [if_pos (by omega)]
   simp only [idx, List.getElem?_eq_getElem h, List.getElem?_eq_getElem (hl ▸ h), Option.bind_some]
   rw [Qkt hN _ _ (ha _ (List.getElem_mem h))]
   simp only [Option.bind_some]
   rw [Zm _ (by omega), show ((i : Int) + 1) = ((i + 1 : Nat) : Int) by push_cast; rfl, ih]
   have e := Qik a b i h (hl ▸ h)
   rw [e]
   by_cases hf : a[i] = b[i] <;> simp [hf]
  ·rw [if_neg (by omega), List.drop_of_length_le (by omega), List.drop_of_length_le (by omega)]; simp
theorem Q76 {N : Nat} (hN : N = 800000000) {a b : List Q9} (ha : ∀ f ∈ a, Q0.szs f.Values < 700000000) (hs : a.length < 100000000) : Zo N a b = some (decide (a = b)) := by
 simp only [Zo, Qd, Wt, Vh]
 by_cases hl : a.length = b.length
 ·rw [if_neg (by omega)]
  exact Qbv hN ha hl hs N 0 (by omega) (by omega)
 ·rw [if_pos (by omega)]
  have : a ≠ b := fun h => hl (by rw [h])
  simp [this]
theorem Qer {N : Nat} (hN : N = 800000000) (l : Qe) (s : List UInt8) (hs : s.length ≤ 100000) : Xs N l s = some (if Wv l = true then ((Qm l s).1, (Qm l s).2.2.1, (Qm l s).2.2.2) else ([], 0, 2)) := by
 simp only [Xs, Qd, Wt, Ve]
 rw [Qfw hN]
 by_cases hr : Wv l = true
 ·obtain ⟨fs, x', h1, h2, h3, _⟩ := Qcy hN hr (Qmq l hr) s (by simp; omega)
  rw [if_pos hr, if_pos hr]
  simp only [Option.bind_some]
  rw [if_neg (by decide), h1]
  simp only [Option.bind_some]
  rw [Qqz h2]
  simp only [Option.bind_some]
  rw [Q7z l hr] at h3
  simp only [List.nil_append] at h3
  simp only [List.nil_append, h3]
 ·rw [if_neg hr, if_neg hr]
  simp only [Option.bind_some]
  simp
theorem Qd0 {α : Type} (cs : List (List α)) (i : Nat) (h : i < cs.length) : (cs.take (i + 1)).flatten = (cs.take i).flatten ++ cs[i] := by
 rw [List.take_succ_eq_append_getElem h, List.flatten_append]; simp
theorem Qie {α : Type} (cs : List (List α)) (i : Nat) : (cs.take i).flatten.length ≤ cs.flatten.length := by
 conv => rhs; rw [← List.take_append_drop i cs]
 rw [List.flatten_append, List.length_append]; omega
end
end Go.Av
namespace Go.Av
noncomputable section
open Go.Proofs
set_option maxRecDepth 100000
theorem Q9i {N : Nat} (hN : N = 800000000) {x : Qk} {l : Qe} (hl : x.L = l) (h0 : x.E = 0) : ∀ (n : Nat) (s : List UInt8) (p : Int) (acc : List Q9), s.length < n → s.length ≤ 100000 → 0 ≤ p → p + s.length ≤ 1000000000000 → acc.length + s.length ≤ 300000 →
  Zn N x n s p acc = some ((acc ++ (Qm l s).1, (Qm l s).2.2.2), ⟨l, (Qm l s).2.1, p + (Qm l s).2.2.1, (Qm l s).2.2.2⟩)
 | 0, s, _, _, h, _, _, _, _ => by omega
 | n + 1, s, p, acc, hn, hs, hp, hp2, ha => by
  simp only [Zn, Qd, Ve, Wt]
  rw [hl, Qcq hN s l (by omega)]
  simp only [Option.bind_some]
  by_cases h3 : (Zi s l).2.2 = 3
  ·rw [if_pos h3, Vl h3, h0]; simp
  ·rw [if_neg h3]
   by_cases he : (Zi s l).2.2 = 0
   ·obtain ⟨q1, q2, _⟩ := Jv he
    rw [if_neg (show ¬ ((Zi s l).2.2 ≠ 0) from fun k => k he), if_pos (by rw [Nat.ble_eq]; omega), if_pos (by rw [decide_eq_true_eq]; omega), if_pos (by simp [Nat.ble_eq]; omega), List.take_length, Zm _ (by omega)]
    rw [Q9i hN hl h0 n _ _ _ (by rw [List.length_drop]; omega) (by rw [List.length_drop]; omega) (by omega) (by rw [List.length_drop]; omega) (by rw [List.length_append, List.length_drop]; simp only [List.length_cons, List.length_nil]; omega), Q0d he]
    simp [Int.add_assoc]
   ·rw [if_pos (show (Zi s l).2.2 ≠ 0 from he), Jl h3 he]; simp
theorem Q5m {N : Nat} (hN : N = 800000000) {l : Qe} (hr : Wv l = true) {t : List UInt8} (c : List UInt8) (hs : t.length + c.length ≤ 100000) :
  ∃ fs, Zj N ⟨l, (Qm l t).2.1, (Qm l t).2.2.1, (Qm l t).2.2.2⟩ c = some ((fs, (Qm l (t ++ c)).2.2.2), ⟨l, (Qm l (t ++ c)).2.1, (Qm l (t ++ c)).2.2.1, (Qm l (t ++ c)).2.2.2⟩) ∧ (Qm l t).1 ++ fs = (Qm l (t ++ c)).1 := by
 have ha := Q4r (l := l) c _ t (Nat.le_refl _)
 simp only [Zj, Qd, Wt]
 by_cases he : (Qm l t).2.2.2 = 0
 ·rw [if_neg (show ¬ ((Qm l t).2.2.2 ≠ 0) from fun k => k he)] at ha ⊢
  have hd := Gr hr _ t (Nat.le_refl _)
  have hl : (Qm l t).2.2.1 + (Qm l t).2.1.length = t.length := by
   rcases hd.1 with ⟨b, _⟩ | ⟨_, _, b⟩
   ·exact absurd he b
   ·exact b
  rw [if_pos (by rw [Nat.ble_eq]; omega), Q9i (l := l) hN rfl he N _ _ _ (by rw [List.length_append]; omega) (by rw [List.length_append]; omega) (by omega) (by rw [List.length_append]; omega) (by rw [List.length_append]; simp only [List.length_nil]; omega)]
  rw [ha]
  exact ⟨_, rfl, rfl⟩
 ·rw [if_pos he] at ha ⊢
  rw [ha]
  exact ⟨[], rfl, by simp⟩
theorem Q7a {N : Nat} (hN : N = 800000000) (l : Qe) (s : List UInt8) (hs : s.length ≤ 100000) : Yp N l s = some (if Wv l = true then ((Qm l s).1, (Qm l s).2.2.1, (Qm l s).2.2.2) else ([], 0, 2)) := by
 simp only [Yp, Qd, Q1c, Option.bind_some]
 by_cases hr : Wv l = true
 ·obtain ⟨fs, h1, h2⟩ := Q5m hN hr (t := []) s (by simp; omega)
  rw [Q7z l hr] at h1 h2
  simp only [List.nil_append] at h1 h2
  rw [if_neg (by simp [hr]), if_pos hr, h1]
  simp only [Option.bind_some, h2]
 ·rw [if_pos (by simpa using hr), if_neg hr]
theorem Qcb {N : Nat} (hN : N = 800000000) {l : Qe} (hr : Wv l = true) {cs : List (List UInt8)} (hc : cs.flatten.length ≤ 300) (hl : cs.length ≤ 100) : ∀ (n i : Nat) (x : Qm5), i ≤ cs.length → cs.length - i < n →
  Qlt x l (Qm l (cs.take i).flatten).2.1 (Qm l (cs.take i).flatten).2.2.1 (Qm l (cs.take i).flatten).2.2.2 →
  Z6 N l cs n (cs.take i).flatten (i : Int) x.l.MaxPacket x.l.MaxDepth x.from' x.at' x.need x.e x.next l.MaxPacket l.MaxDepth (Qm l (cs.take i).flatten).2.1 (Qm l (cs.take i).flatten).2.2.1 (Qm l (cs.take i).flatten).2.2.2 x.kept x.out = some true
 | 0, i, _, _, h, _ => by omega
 | n + 1, i, x, hi, hn, hx => by
  simp only [Z6, Qd, V0, Wt, Vh]
  by_cases h : i < cs.length
  ·have hlen := Qie cs i
   have hle2 := Qie cs (i + 1)
   have hft := Qd0 cs i h
   rw [if_pos (by omega)]
   simp only [idx, List.getElem?_eq_getElem h, Option.bind_some]
   obtain ⟨fs, x', h1, h2, h3, _⟩ := Qcy hN hr hx cs[i] (by rw [hft, List.length_append] at hle2; omega)
   obtain ⟨fs', g1, g2⟩ := Q5m (l := l) hN hr (t := (cs.take i).flatten) cs[i] (by rw [hft, List.length_append] at hle2; omega)
   have hfe : fs' = fs := List.append_cancel_left (g2.trans h3.symm)
   subst hfe
   rw [show Qx N ⟨⟨x.l.MaxPacket, x.l.MaxDepth⟩, x.kept, x.from', x.at', x.need, x.e, x.next, x.out⟩ cs[i] = _ from h1]
   simp only [Option.bind_some]
   rw [show Zj N ⟨⟨l.MaxPacket, l.MaxDepth⟩, _, _, _⟩ cs[i] = _ from g1]
   simp only [Option.bind_some]
   rw [← hft] at h2 h3 ⊢
   have hsz2 := Q35 (l := l) _ (cs.take (i + 1)).flatten (Nat.le_refl _) (by omega)
   rw [if_pos (by rw [Nat.ble_eq]; rw [hft, List.length_append] at hle2; omega)]
   rw [Q76 hN (fun f hf => by have := hsz2.2 f (h3 ▸ List.mem_append_right _ hf); omega) (by have := congrArg List.length h3; rw [List.length_append] at this; omega)]
   simp only [Option.bind_some]
   have ih := Qcb hN hr hc hl n (i + 1) x' (by omega) (by omega) h2
   obtain ⟨xl, xk, xf, xa, xn, xe, xq, xo⟩ := x'
   obtain ⟨e1, e2, e3, e4, e5, e6, _, _, _⟩ := h2
   simp only [] at e1 e2 e3 e4 e5 e6 ih ⊢
   subst e1 e2 e3 e4 e5 e6
   rw [if_neg (by simp), if_neg (by simp), if_neg (by simp), if_neg (by simp), if_pos (by simp), if_pos (by simp)]
   simp only [Xh, Option.bind_some, Q03]
   rw [if_neg (by simp), Zm _ (by omega), show ((i : Int) + 1) = ((i + 1 : Nat) : Int) by push_cast; rfl]
   exact ih
  ·rw [if_neg (by omega)]
   have hi' : i = cs.length := by omega
   subst hi'
   rw [List.take_length, Qer hN l _ (by omega), Q7a hN l _ (by omega), if_pos hr]
   have hsz := Q35 (l := l) _ cs.flatten (Nat.le_refl _) (by omega)
   simp only [Option.bind_some]
   rw [Q76 hN (fun f hf => by have := hsz.2 f hf; omega) (by omega)]
   simp [Q7]
theorem Qbo {N : Nat} (hN : N = 800000000) {l : Qe} {cs : List (List UInt8)} : ∀ (n i : Nat), i ≤ cs.length → i ≤ 20 → (cs.take i).flatten.length ≤ 300 → 21 - i < n →
  Z5 N l cs n ((cs.take i).flatten.length : Int) (i : Int) = some true
 | 0, _, _, _, _, h => by omega
 | n + 1, i, hi, h20, ht, hn => by
  simp only [Z5, Qd, V0, Q1g, Q60, Ve, Wt, Vh]
  by_cases h : i < cs.length
  ·have hft := Qd0 cs i h
   rw [if_pos (by omega)]
   simp only [idx, List.getElem?_eq_getElem h, Option.bind_some]
   have hmin : (ifB (decide (301 < ((cs[i]).length : Int))) 301 ((cs[i]).length : Int) : Int) = ((if 301 < (cs[i]).length then 301 else (cs[i]).length : Nat) : Int) := by
    by_cases hc : 301 < (cs[i]).length
    ·rw [if_pos hc, decide_eq_true (by omega)]; rfl
    ·rw [if_neg hc, decide_eq_false (by omega)]; rfl
   rw [hmin, Zm _ (by split <;> omega)]
   by_cases hbig : (cs.take (i + 1)).flatten.length > 300
   ·rw [if_pos (by rw [hft, List.length_append] at hbig; split <;> omega)]
   ·have hlen : (cs.take (i + 1)).flatten.length = (cs.take i).flatten.length + cs[i].length := by rw [hft, List.length_append]
    rw [if_neg (by split <;> omega)]
    by_cases hi2 : i ≥ 20
    ·rw [if_pos (by omega)]
    ·rw [if_neg (by omega), if_neg (by omega), Zm _ (by omega), show (((cs.take i).flatten.length : Int) + (cs[i].length : Int)) = ((cs.take (i + 1)).flatten.length : Int) by rw [hlen]; push_cast; rfl, show ((i : Int) + 1) = ((i + 1 : Nat) : Int) by push_cast; rfl]
     exact Qbo hN n (i + 1) (by omega) (by omega) (by omega) (by omega)
  ·have hi' : i = cs.length := by omega
   subst hi'
   rw [List.take_length] at ht
   rw [if_neg (by omega), Qfw hN, Q1c]
   by_cases hr : Wv l = true
   ·rw [if_pos hr]
    simp only [Option.bind_some]
    rw [if_neg (by decide), if_neg (by simp [hr])]
    have := Qcb hN hr ht (by omega) N 0 ⟨l, [], 0, 0, 0, 0, Qw, []⟩ (by omega) (by omega) (by simpa using Qmq l hr)
    rw [List.take_zero, List.flatten_nil, Q7z l hr] at this
    exact this
   ·rw [if_neg hr]
    simp only [Option.bind_some]
    rw [if_pos (by trivial), if_pos (by simpa using hr), if_neg (by simp), hN]
    simp only [Ya]
    rw [← hN, Qer hN l [] (by simp), Q7a hN l [] (by simp), if_neg hr]
    simp only [Option.bind_some]
    rw [Q76 hN (fun f hf => by cases hf) (by simp)]
    simp [Q7, Qd]
theorem Qhq {N : Nat} (hN : N = 800000000) (hlv : Xz N = some true) (l : Qe) (cs : List (List UInt8)) : Y1 N l cs = some true := by
 simp only [Y1, hlv, Option.bind_some, Qd]
 rw [if_neg (by simp)]
 exact Qbo hN N 0 (by omega) (by omega) (by simp) (by omega)
theorem Qb0 (l : Qe) (cs : List (List UInt8)) (_ : OkL l) : Y1 800000000 l cs = some true := Qhq rfl Qn8 l cs
end
end Go.Av
