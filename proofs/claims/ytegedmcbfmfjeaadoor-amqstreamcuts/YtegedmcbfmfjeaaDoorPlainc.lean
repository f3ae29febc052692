/- The law. Part of a proof of a given statement: for every input the law returns true and the arguments read as before; no condition beyond the given row. -/
import Derived.Test.YtegedmcbfmfjeaaDoorPlainb
import Derived.Test.YtegedmcbfmfjeaaDoorOks
import Derived.Test.YtegedmcbfmfjeaaDoorLiftF4
namespace Go.Av
noncomputable section
open Go.Proofs
set_option maxRecDepth 100000
end
end Go.Av
namespace Go.Av
noncomputable section
open Go.Proofs
set_option maxRecDepth 100000
def Q0v (s : List UInt8) : List Int := s.map fun b => (b.toNat : Int)
theorem Qg4 (s t : List UInt8) : Q0v (s ++ t) = Q0v s ++ Q0v t := by simp [Q0v]
theorem Um (s : List UInt8) : (Q0v s).length = s.length := by simp [Q0v]
end
end Go.Av
namespace Go.Av
noncomputable section
open Go.Proofs
set_option maxRecDepth 100000
theorem Qet (s : List UInt8) : (Q0v s).map (fun n => UInt8.ofNat n.toNat) = s := by
 unfold Q0v
 rw [List.map_map]
 conv => rhs; rw [← List.map_id s]
 apply List.map_congr_left
 intro b _
 simp
end
end Go.Av
namespace Go.Av
noncomputable section
open Go.Proofs
set_option maxRecDepth 100000
end
end Go.Av
namespace Go.Av
noncomputable section
open Go.Proofs
set_option maxRecDepth 100000
end
end Go.Av
namespace Go.Av
noncomputable section
open Go.Proofs
set_option maxRecDepth 100000
end
end Go.Av
namespace Go.Av
noncomputable section
open Go.Proofs
set_option maxRecDepth 100000
def Xf (l : Qa) : Bool := decide (16 ≤ l.MaxPacket ∧ l.MaxPacket ≤ 1048576 ∧ 0 ≤ l.MaxDepth ∧ l.MaxDepth ≤ 32)
structure FB (f : Q6) : Prop where
 fine : ∀ x ∈ f.Values, Fine x
 sz : Q0.szs f.Values < 160000000
 wgt : Q0.wgts f.Values < 4000000000
theorem FB.one {f : Q6} (h : FB f) : ∀ x ∈ f.Values, Fine x ∧ x.sz < 160000000 ∧ x.wgt < 4000000000 := fun x hx => by
 have h1 := Q0.szs_mem _ x hx
 have h2 := Qb0 _ x hx
 have h3 := h.sz
 have h4 := h.wgt
 exact ⟨h.fine x hx, by omega, by omega⟩
theorem FB.len {f : Q6} (h : FB f) : f.Values.length < 160000000 := by
 have h1 := Q0.szs_len f.Values
 have h2 := h.sz
 omega
theorem Qcb (N : Nat) (l : Qa) : Xq N l = some (Xf l) := by
 unfold Xq Xf
 simp only [Qr, Qcj, Qdu]
 repeat' split
 all_goals (congr 1; symm)
 ·rw [Bool.eq_iff_iff]; simp only [decide_eq_true_eq, Qdu]; omega
 all_goals (rw [decide_eq_false_iff_not]; omega)
theorem Qhb (N : Nat) (n : Int) : Xs N n = some (decide (n = 0 ∨ n = 1)) := by
 unfold Xs
 simp only [Qr, Ue]
 split
 ·rename_i h; simp [h]
 ·rename_i h
  congr 1
  rw [Bool.eq_iff_iff, Ue]; simp [h]
theorem Qkf (s : List UInt8) : (s.map fun b => (b.toNat : Int)) = Q0v s := rfl
end
end Go.Av
namespace Go.Av
noncomputable section
open Go.Proofs
set_option maxRecDepth 100000
theorem Q6.ext' {a b : Q6} (h1 : a.Type' = b.Type') (h2 : a.Channel = b.Channel) (h3 : a.Ext = b.Ext) (h4 : a.Values = b.Values) : a = b := by cases a; cases b; simp_all
noncomputable instance : DecidableEq Q6 := fun a b => decidable_of_iff (a.Type' = b.Type' ∧ a.Channel = b.Channel ∧ a.Ext = b.Ext ∧ a.Values = b.Values) ⟨fun h => Q6.ext' h.1 h.2.1 h.2.2.1 h.2.2.2, fun h => by rw [h]; exact ⟨rfl, rfl, rfl, rfl⟩⟩
theorem Qgp (l m : List Q0) (i : Nat) (h : i < l.length) (h' : i < m.length) : decide (l.drop i = m.drop i) = (decide (l[i] = m[i]) && decide (l.drop (i + 1) = m.drop (i + 1))) := by
 rw [List.drop_eq_getElem_cons h, List.drop_eq_getElem_cons h', Bool.eq_iff_iff]
 simp only [decide_eq_true_eq, Bool.and_eq_true, List.cons.injEq]
theorem Qay {N : Nat} (hN : N = 800000000) {a b : Q6} (ha : Q0.szs a.Values < 700000000) (hl : a.Values.length = b.Values.length) : ∀ (n i : Nat), i ≤ a.Values.length → a.Values.length - i < n → Z0 N a b n (i : Int) = some (decide (a.Values.drop i = b.Values.drop i))
 | 0, i, _, h => by omega
 | n + 1, i, hi, hn => by
  have hs := Q0.szs_len a.Values
  simp only [Z0, Qr, U6, Vj, Jh]
  by_cases h : i < a.Values.length
  ·have h' : i < b.Values.length := by omega
   have hx := Q0.szs_mem _ _ (List.getElem_mem h)
   rw [if_pos (by omega), List.getElem?_eq_getElem h, List.getElem?_eq_getElem h']
   simp only [Option.bind_some]
   rw [Q2r N _ _ (by omega) (by omega), Qgp _ _ i h h']
   simp only [Option.bind_some]
   rw [Y9 _ (by omega)]
   have ih := Qay hN ha hl n (i + 1) (by omega) (by omega)
   have ih : Z0 N a b n ((i : Int) + 1) = some (decide (a.Values.drop (i + 1) = b.Values.drop (i + 1))) := by exact_mod_cast ih
   rw [ih]
   cases decide (a.Values[i] = b.Values[i]) <;> rfl
  ·rw [if_neg (by omega), List.drop_of_length_le (by omega), List.drop_of_length_le (by omega)]; rfl
theorem Qg8 {N : Nat} (hN : N = 800000000) (a b : Q6) (ha : Q0.szs a.Values < 700000000) : Y4 N a b = some (decide (a = b)) := by
 have hs := Q0.szs_len a.Values
 simp only [Y4, Qr, V9, Q1y, Vj]
 by_cases h1 : a.Type' = b.Type'
 ·rw [if_neg (by simp [h1])]
  by_cases h2 : a.Channel = b.Channel
  ·rw [if_neg (by simp [h2])]
   by_cases h3 : a.Ext = b.Ext
   ·rw [if_neg (by simp [h3])]
    by_cases h4 : a.Values.length = b.Values.length
    ·rw [if_neg (by simp [h4])]
     have := Qay hN ha h4 N 0 (by omega) (by omega)
     rw [List.drop_zero, List.drop_zero] at this
     have : Z0 N a b N 0 = some (decide (a.Values = b.Values)) := by exact_mod_cast this
     rw [this]
     congr 1
     rw [Bool.eq_iff_iff]
     simp only [decide_eq_true_eq]
     exact ⟨fun h => Q6.ext' h1 h2 h3 h, fun h => by rw [h]⟩
    ·rw [if_pos (by omega), decide_eq_false (fun h => h4 (by rw [h]))]
   ·rw [if_pos h3, decide_eq_false (fun h => h3 (by rw [h]))]
  ·rw [if_pos h2, decide_eq_false (fun h => h2 (by rw [h]))]
 ·rw [if_pos h1, decide_eq_false (fun h => h1 (by rw [h]))]
end
end Go.Av
namespace Go.Av
noncomputable section
open Go.Proofs
set_option maxRecDepth 100000
def Q74 : Q6 := ⟨0, 0, [], []⟩
def Yt (s : List UInt8) (l : Qa) : Int × Int :=
 if Xf l = false then (0, 2) else if s.length < 8 then (0, 3) else if l.MaxPacket < (Wd (s.take 4) : Int) then (0, 4)
 else if Wd (s.take 4) < 8 ∨ (s.getD 4 0).toNat < 2 ∨ Wd (s.take 4) < 4 * (s.getD 4 0).toNat then (0, 5)
 else if 1 < (s.getD 5 0).toNat then (0, 8) else ((Wd (s.take 4) : Int), 0)
def Ur (rd : List UInt8 → Rd) : Nat → List UInt8 → List Q0 → List Q0 × Int
 | 0, _, _ => ([], 0)
 | k + 1, s, acc => if s = [] then (acc, 0) else if acc.length = 1000 then ([], 4) else if (rd s).2.2 = 3 then ([], 5) else if (rd s).2.2 ≠ 0 then ([], (rd s).2.2) else Ur rd k (s.drop (rd s).2.1.toNat) (acc ++ [(rd s).1])
def Qic (q : List Q0 × Int) (r : List Q0 → Q6 × Int × Int) : Q6 × Int × Int := if q.2 ≠ 0 then (Q74, 0, q.2) else r q.1
theorem Qjk (l : List Q0) (r : List Q0 → Q6 × Int × Int) : Qic (l, 0) r = r l := if_neg (fun h => h rfl)
theorem Q7f (l : List Q0) {e : Int} (h : e ≠ 0) (r : List Q0 → Q6 × Int × Int) : Qic (l, e) r = (Q74, 0, e) := if_pos h
def Q37 (s : List UInt8) (n : Nat) : List UInt8 := (s.take n).drop (4 * (s.getD 4 0).toNat)
noncomputable def Q2s (s : List UInt8) (n : Nat) (m : Nat) : Q6 × Int × Int :=
 Qic (Ur (Y2 (Wu m)) ((Q37 s n).length + 1) (Q37 s n) []) fun vs => (⟨((s.getD 5 0).toNat : Int), (Wd ((s.take 8).drop 6) : Int), (s.take (4 * (s.getD 4 0).toNat)).drop 8, vs⟩, (n : Int), 0)
noncomputable def Z4 (s : List UInt8) (l : Qa) : Q6 × Int × Int :=
 if (Yt s l).2 ≠ 0 then (Q74, 0, (Yt s l).2) else if s.length < Wd (s.take 4) then (Q74, 0, 3) else Q2s s (Wd (s.take 4)) l.MaxDepth.toNat
theorem Qgh {s : List UInt8} (h : 8 ≤ s.length) : ∃ a0 a1 a2 a3 a4 a5 a6 a7 t, s = a0 :: a1 :: a2 :: a3 :: a4 :: a5 :: a6 :: a7 :: t := by
 match s, h with
 | a0 :: a1 :: a2 :: a3 :: a4 :: a5 :: a6 :: a7 :: t, _ => exact ⟨a0, a1, a2, a3, a4, a5, a6, a7, t, rfl⟩
theorem Qh8 (b : UInt8) : UInt8.ofNat ((b.toNat : Int)).toNat = b := by simp
theorem Qf0 (b : UInt8) : IntKind.i64.wrap (b.toNat : Int) = ((b.toNat : Nat) : Int) := by
 have := b.toNat_lt
 rw [Y9 _ (by omega)]
theorem Qlq (b : UInt8) : IntKind.u64.wrap (b.toNat : Int) = ((b.toNat : Nat) : Int) := by
 have := b.toNat_lt
 exact Vz _ (by omega)
theorem Q3a {l : Qa} (h : Xf l = true) : 16 ≤ l.MaxPacket ∧ l.MaxPacket ≤ 1048576 ∧ 0 ≤ l.MaxDepth ∧ l.MaxDepth ≤ 32 := by simpa [Xf] using h
theorem Qmr (a b c d : UInt8) : Wd [a, b, c, d] < 4294967296 := by
 have := Jd [a, b, c, d]
 simpa using this
theorem Qn0 (a b : UInt8) : Wd [a, b] < 65536 := by
 have := Jd [a, b]
 simpa using this
theorem Q01 {s : List UInt8} {l : Qa} (h : (Yt s l).2 = 0) : Xf l = true ∧ 8 ≤ s.length ∧ (Wd (s.take 4) : Int) ≤ l.MaxPacket ∧ 8 ≤ Wd (s.take 4) ∧ 2 ≤ (s.getD 4 0).toNat ∧ 4 * (s.getD 4 0).toNat ≤ Wd (s.take 4) ∧ (s.getD 5 0).toNat ≤ 1 ∧ Yt s l = ((Wd (s.take 4) : Int), 0) := by
 unfold Yt at h ⊢
 split at h
 ·cases h
 rename_i h1; rw [if_neg h1]
 split at h
 ·cases h
 rename_i h2; rw [if_neg h2]
 split at h
 ·cases h
 rename_i h3; rw [if_neg h3]
 split at h
 ·cases h
 rename_i h4; rw [if_neg h4]
 split at h
 ·cases h
 rename_i h5; rw [if_neg h5]
 exact ⟨by simpa using h1, by omega, by omega, by omega, by omega, by omega, by omega, rfl⟩
theorem Q9x {N : Nat} (hN : N = 800000000) (s : List UInt8) (l : Qa) : Zw N s l = some (Yt s l) := by
 simp only [Zw, Qcb, Option.bind_some, Qr, U6, Q33, Yt]
 cases hr : Xf l with
 | false => rfl
 | true =>
  obtain ⟨r1, r2, r3, r4⟩ := Q3a hr
  simp only [Bool.not_true, Bool.false_eq_true, if_false, Bool.true_eq_false]
  by_cases h8 : s.length < 8
  ·rw [if_pos (by omega), if_pos h8]
  rw [if_neg (by omega), if_neg h8]
  obtain ⟨a0, a1, a2, a3, a4, a5, a6, a7, t, rfl⟩ := Qgh (s := s) (by omega)
  have i0 : idx (a0 :: a1 :: a2 :: a3 :: a4 :: a5 :: a6 :: a7 :: t) 0 = some a0 := rfl
  have i1 : idx (a0 :: a1 :: a2 :: a3 :: a4 :: a5 :: a6 :: a7 :: t) 1 = some a1 := rfl
  have i2 : idx (a0 :: a1 :: a2 :: a3 :: a4 :: a5 :: a6 :: a7 :: t) 2 = some a2 := rfl
  have i3 : idx (a0 :: a1 :: a2 :: a3 :: a4 :: a5 :: a6 :: a7 :: t) 3 = some a3 := rfl
  have i4 : idx (a0 :: a1 :: a2 :: a3 :: a4 :: a5 :: a6 :: a7 :: t) 4 = some a4 := rfl
  have i5 : idx (a0 :: a1 :: a2 :: a3 :: a4 :: a5 :: a6 :: a7 :: t) 5 = some a5 := rfl
  have i6 : idx (a0 :: a1 :: a2 :: a3 :: a4 :: a5 :: a6 :: a7 :: t) 6 = some a6 := rfl
  have i7 : idx (a0 :: a1 :: a2 :: a3 :: a4 :: a5 :: a6 :: a7 :: t) 7 = some a7 := rfl
  have e0 : (a0 :: a1 :: a2 :: a3 :: a4 :: a5 :: a6 :: a7 :: t).take 4 = [a0, a1, a2, a3] := rfl
  have e4 : (a0 :: a1 :: a2 :: a3 :: a4 :: a5 :: a6 :: a7 :: t).getD 4 0 = a4 := rfl
  have e5 : (a0 :: a1 :: a2 :: a3 :: a4 :: a5 :: a6 :: a7 :: t).getD 5 0 = a5 := rfl
  have b4 := a4.toNat_lt
  have b5 := a5.toNat_lt
  have bn := Qmr a0 a1 a2 a3
  rw [i0, i1, i2, i3, i4, i5, i6, i7, e0, e4, e5]
  simp only [Option.bind_some, Qh8, Qf0, Qlq]
  rw [Q3w N [a0, a1, a2, a3] (by simp) (by omega)]
  have ew : IntKind.u64.wrap l.MaxPacket = l.MaxPacket := by
   have h : ((l.MaxPacket.toNat : Nat) : Int) = l.MaxPacket := by omega
   have h2 := Vz l.MaxPacket.toNat (by omega)
   rw [h] at h2; exact h2
  have e4w : IntKind.u64.wrap ((a4.toNat : Int) * 4) = ((4 * a4.toNat : Nat) : Int) := by
   rw [show ((a4.toNat : Int) * 4) = ((4 * a4.toNat : Nat) : Int) by omega, Vz _ (by omega)]
  simp only [Option.bind_some, ew, e4w, Qhb]
  generalize Wd [a0, a1, a2, a3] = n at bn ⊢
  by_cases c1 : l.MaxPacket < (n : Int)
  ·rw [if_pos (by omega), if_pos c1]
  rw [if_neg (by omega), if_neg c1]
  by_cases c2 : n < 8 ∨ a4.toNat < 2 ∨ n < 4 * a4.toNat
  ·rw [if_pos c2]
   repeat' split
   all_goals first | rfl | omega
  rw [if_neg c2, if_neg (by omega), if_neg (by omega), if_neg (by omega)]
  by_cases c3 : 1 < a5.toNat
  ·rw [if_pos c3, decide_eq_false (by omega)]; rfl
  ·rw [if_neg c3, decide_eq_true (by omega)]
   simp only [Bool.not_true, Bool.false_eq_true, if_false]
   rw [Y9 _ (by omega)]
theorem Q4i {rd : List UInt8 → Rd} (hg : ∀ s, s.length ≤ 600000 → (rd s).2.2 = 0 → 1 ≤ (rd s).2.1) : ∀ (k k' : Nat) (s : List UInt8) (acc : List Q0), s.length ≤ 600000 → s.length < k → s.length < k' → Ur rd k s acc = Ur rd k' s acc
 | 0, _, s, acc, _, h, _ => by omega
 | k + 1, 0, s, acc, _, _, h => by omega
 | k + 1, k' + 1, s, acc, hs, h1, h2 => by
  simp only [Ur]
  by_cases h0 : s = []
  ·rw [if_pos h0, if_pos h0]
  rw [if_neg h0, if_neg h0]
  by_cases h3 : acc.length = 1000
  ·rw [if_pos h3, if_pos h3]
  rw [if_neg h3, if_neg h3]
  by_cases h4 : (rd s).2.2 = 3
  ·rw [if_pos h4, if_pos h4]
  rw [if_neg h4, if_neg h4]
  by_cases h5 : (rd s).2.2 = 0
  ·rw [if_neg (by simp [h5]), if_neg (by simp [h5])]
   have := hg s hs h5
   have hl : 0 < s.length := List.length_pos_iff.2 h0
   exact Q4i hg k k' _ _ (by rw [List.length_drop]; omega) (by rw [List.length_drop]; omega) (by rw [List.length_drop]; omega)
  ·rw [if_pos h5, if_pos h5]
theorem Q6r (m : Nat) : ∀ s : List UInt8, s.length ≤ 600000 → (Y2 (Wu m) s).2.2 = 0 → 1 ≤ (Y2 (Wu m) s).2.1 := fun s hs he => by
 have := (Uy (J9 m)).2 s hs he
 omega
theorem Qdh {N : Nat} (hN : N = 800000000) {s0 : List UInt8} {l : Qa} {m : Nat} (hm : l.MaxDepth = (m : Int)) (hm2 : m ≤ 32) {v1 : Int × Int} {b5 b7 : UInt8} {v10 : Int} : ∀ (n : Nat) (left : List UInt8) (acc : List Q0), left.length ≤ 600000 → left.length < n → acc.length ≤ 1000 →
  Yj N s0 l v1 b5 b7 v10 n left acc = some (Qic (Ur (Y2 (Wu m)) n left acc) fun vs => (⟨IntKind.i64.wrap (b7.toNat : Int), IntKind.i64.wrap v10, (s0.take (IntKind.i64.wrap (4 * IntKind.i64.wrap (b5.toNat : Int))).toNat).drop 8, vs⟩, v1.1, 0))
 | 0, left, acc, _, h, _ => by omega
 | n + 1, left, acc, hl, hn, ha => by
  simp only [Yj, Qr, Q1y, Ue, V9, Ur, hm]
  by_cases h0 : left = []
  ·rw [if_neg (by simp [h0]), if_pos h0, Qjk]
  rw [if_pos h0, if_neg h0]
  by_cases h3 : acc.length = 1000
  ·rw [if_pos (by omega), if_pos h3, Q7f _ (by decide)]; rfl
  rw [if_neg (by omega), if_neg h3, Qkp m N left hm2 (by omega) hl]
  simp only [Option.bind_some]
  by_cases h4 : (Y2 (Wu m) left).2.2 = 3
  ·rw [if_pos h4, if_pos h4, Q7f _ (by decide)]; rfl
  rw [if_neg h4, if_neg h4]
  by_cases h5 : (Y2 (Wu m) left).2.2 = 0
  ·rw [if_neg (show ¬ ((Y2 (Wu m) left).2.2 ≠ 0) by simp [h5]), if_neg (show ¬ ((Y2 (Wu m) left).2.2 ≠ 0) by simp [h5])]
   have g1 := Q6r m left hl h5
   have g2 := ((Uy (J9 m)).1 left hl h5).2.1
   have hp : 0 < left.length := List.length_pos_iff.2 h0
   rw [if_pos (by rw [Nat.ble_eq]; omega), if_pos (by simp; omega), if_pos (by simp [Nat.ble_eq]; omega), List.take_length]
   exact Qdh hN hm hm2 n _ _ (by rw [List.length_drop]; omega) (by rw [List.length_drop]; omega) (by simp; omega)
  ·rw [if_pos h5, if_pos (show (Y2 (Wu m) left).2.2 ≠ 0 from h5), Q7f _ h5]; rfl
theorem Qfu {N : Nat} (hN : N = 800000000) (s : List UInt8) (l : Qa) (hs : s.length ≤ 600000) : W1 N s l = some (Z4 s l) := by
 simp only [W1, Q9x hN, Option.bind_some, Qr, V9, U6, Z4]
 by_cases he : (Yt s l).2 = 0
 ·rw [if_neg (show ¬ ((Yt s l).2 ≠ 0) from fun h => h he), if_neg (show ¬ ((Yt s l).2 ≠ 0) from fun h => h he)]
  obtain ⟨q1, q2, q3, q4, q5, q6, q7, q8⟩ := Q01 he
  obtain ⟨r1, r2, r3, r4⟩ := Q3a q1
  rw [q8]
  simp only []
  by_cases hl : s.length < Wd (s.take 4)
  ·rw [if_pos (by omega), if_pos hl]; rfl
  rw [if_neg (by omega), if_neg hl]
  obtain ⟨a0, a1, a2, a3, a4, a5, a6, a7, t, rfl⟩ := Qgh q2
  have i4 : idx (a0 :: a1 :: a2 :: a3 :: a4 :: a5 :: a6 :: a7 :: t) 4 = some a4 := rfl
  have i5 : idx (a0 :: a1 :: a2 :: a3 :: a4 :: a5 :: a6 :: a7 :: t) 5 = some a5 := rfl
  have e6 : ((a0 :: a1 :: a2 :: a3 :: a4 :: a5 :: a6 :: a7 :: t).take 8).drop 6 = [a6, a7] := rfl
  have e4 : (a0 :: a1 :: a2 :: a3 :: a4 :: a5 :: a6 :: a7 :: t).getD 4 0 = a4 := rfl
  have e5 : (a0 :: a1 :: a2 :: a3 :: a4 :: a5 :: a6 :: a7 :: t).getD 5 0 = a5 := rfl
  have b4 := a4.toNat_lt
  have b7 := Qn0 a6 a7
  rw [e4] at q5 q6
  have ew : IntKind.i64.wrap (4 * IntKind.i64.wrap (a4.toNat : Int)) = ((4 * a4.toNat : Nat) : Int) := by
   rw [Qf0, Y9 _ (by omega)]; push_cast; rfl
  rw [i4, i5]
  simp only [Option.bind_some, ew, Int.toNat_natCast]
  rw [if_pos (by simp [Nat.ble_eq]), e6, Q3w N [a6, a7] (by simp) (by omega)]
  simp only [Option.bind_some]
  rw [if_pos (by rw [decide_eq_true_eq]; omega), if_pos (by simp only [Nat.ble_eq, Bool.and_eq_true]; omega), if_pos (by rw [decide_eq_true_eq]; omega), if_pos (by simp only [Nat.ble_eq, Bool.and_eq_true]; omega)]
  have hm : l.MaxDepth = ((l.MaxDepth.toNat : Nat) : Int) := by omega
  have hdl : (((a0 :: a1 :: a2 :: a3 :: a4 :: a5 :: a6 :: a7 :: t).take (Wd ((a0 :: a1 :: a2 :: a3 :: a4 :: a5 :: a6 :: a7 :: t).take 4))).drop (4 * a4.toNat)).length ≤ 600000 := by
   rw [List.length_drop, List.length_take]; omega
  rw [Qdh hN hm (by omega) N _ _ hdl (by omega) (by simp)]
  unfold Q2s Q37
  rw [e4, e5, e6, Q4i (Q6r _) N (_ + 1) _ [] hdl (by rw [hN]; omega) (Nat.lt_succ_self _), ew, Qf0]
  simp only [Int.toNat_natCast, Y9 ((Wd [a6, a7] : Nat) : Int) (by omega)]
 ·rw [if_pos he, if_pos he]; rfl
end
end Go.Av
namespace Go.Av
noncomputable section
open Go.Proofs
set_option maxRecDepth 100000
theorem Q5m {rd : List UInt8 → Rd} (hg : ∀ s, s.length ≤ 600000 → (rd s).2.2 = 0 → 1 ≤ (rd s).2.1 ∧ (rd s).2.1 ≤ s.length ∧ (rd s).1.sz ≤ 1 + 1000 * (rd s).2.1.toNat) : ∀ (k : Nat) (s : List UInt8) (acc : List Q0), s.length ≤ 600000 → Q0.szs (Ur rd k s acc).1 ≤ Q0.szs acc + 1001 * s.length
 | 0, s, acc, _ => by simp [Ur, Q0.szs]
 | k + 1, s, acc, hs => by
  rw [Ur]
  split
  ·simp
  split
  ·simp [Q0.szs]
  split
  ·simp [Q0.szs]
  split
  ·simp [Q0.szs]
  rename_i h5
  obtain ⟨g1, g2, g3⟩ := hg s hs (Classical.byContradiction h5)
  have := Q5m hg k (s.drop (rd s).2.1.toNat) (acc ++ [(rd s).1]) (by rw [List.length_drop]; omega)
  rw [Q0.szs_app, List.length_drop] at this
  simp only [Q0.szs] at this
  omega
theorem Qdv (m : Nat) : ∀ s : List UInt8, s.length ≤ 600000 → (Y2 (Wu m) s).2.2 = 0 → 1 ≤ (Y2 (Wu m) s).2.1 ∧ (Y2 (Wu m) s).2.1 ≤ s.length ∧ (Y2 (Wu m) s).1.sz ≤ 1 + 1000 * (Y2 (Wu m) s).2.1.toNat := fun s hs he => by
 have h1 := (Uy (J9 m)).1 s hs he
 exact ⟨Q6r m s hs he, h1.2.1, h1.2.2⟩
theorem Qfs (s : List UInt8) (n : Nat) : (Q37 s n).length ≤ s.length := by
 unfold Q37
 rw [List.length_drop, List.length_take]; omega
theorem Qck (s : List UInt8) (n m : Nat) (hs : s.length ≤ 600000) : Q0.szs (Q2s s n m).1.Values ≤ 1001 * s.length := by
 have hb := Qfs s n
 have := Q5m (Qdv m) ((Q37 s n).length + 1) (Q37 s n) [] (by omega)
 unfold Q2s Qic
 split
 ·simp [Q74, Q0.szs]
 ·simp only [Q0.szs] at this
  show Q0.szs (Ur (Y2 (Wu m)) ((Q37 s n).length + 1) (Q37 s n) []).1 ≤ _
  omega
theorem Qdl (s : List UInt8) (l : Qa) (hs : s.length ≤ 600000) : Q0.szs (Z4 s l).1.Values ≤ 1001 * s.length := by
 unfold Z4
 split
 ·simp [Q74, Q0.szs]
 split
 ·simp [Q74, Q0.szs]
 ·exact Qck s _ _ hs
end
end Go.Av
namespace Go.Av
noncomputable section
open Go.Proofs
set_option maxRecDepth 100000
theorem Qem {s s' : List UInt8} (l : Qa) (h : 8 ≤ s.length) (h' : 8 ≤ s'.length) (e : s.take 8 = s'.take 8) : Yt s l = Yt s' l := by
 obtain ⟨a0, a1, a2, a3, a4, a5, a6, a7, t, rfl⟩ := Qgh h
 obtain ⟨b0, b1, b2, b3, b4, b5, b6, b7, t', rfl⟩ := Qgh h'
 simp only [List.take_succ_cons, List.take_zero, List.cons.injEq, and_true] at e
 obtain ⟨rfl, rfl, rfl, rfl, rfl, rfl, rfl, rfl⟩ := e
 unfold Yt
 rw [if_neg (show ¬ (_ < 8) by simp), if_neg (show ¬ ((a0 :: a1 :: a2 :: a3 :: a4 :: a5 :: a6 :: a7 :: t').length < 8) by simp)]
 rfl
end
end Go.Av
namespace Go.Av
noncomputable section
open Go.Proofs
set_option maxRecDepth 100000
end
end Go.Av
namespace Go.Av
noncomputable section
open Go.Proofs
set_option maxRecDepth 100000
theorem Q8y {s : List UInt8} {l : Qa} (h8 : 8 ≤ s.length) (t : List UInt8) : Yt (s ++ t) l = Yt s l :=
 Qem l (by rw [List.length_append]; omega) h8 (by rw [List.take_append_of_le_length h8])
theorem Q64 {s : List UInt8} {l : Qa} (h : Xf l = false) : Yt s l = (0, 2) := by unfold Yt; rw [if_pos h]
theorem Qbj {s : List UInt8} {l : Qa} (h : Xf l = true) (h8 : s.length < 8) : Yt s l = (0, 3) := by unfold Yt; rw [if_neg (by simp [h]), if_pos h8]
theorem Q99 {s : List UInt8} {l : Qa} (h8 : 8 ≤ s.length) : (Yt s l).2 ≠ 3 := by
 unfold Yt
 split
 ·decide
 ·split
  ·omega
  ·split
   ·decide
   ·split
    ·decide
    ·split <;> simp
theorem Q4s {rd : List UInt8 → Rd} : ∀ (k : Nat) (s : List UInt8) (acc : List Q0), (Ur rd k s acc).2 ≠ 3
 | 0, _, _ => by unfold Ur; decide
 | k + 1, s, acc => by
  unfold Ur
  split
  ·simp
  ·split
   ·simp
   ·split
    ·simp
    ·split
     ·assumption
     ·exact Q4s k _ _
theorem Qcs (s : List UInt8) (n m : Nat) : (Q2s s n m).2.2 ≠ 3 := by
 unfold Q2s Qic
 split
 ·exact Q4s _ _ _
 ·simp
theorem Wq {s : List UInt8} {l : Qa} (hr : Xf l = true) : (Z4 s l).2.2 = 3 ↔ s.length < 8 ∨ (Yt s l).2 = 0 ∧ s.length < Wd (s.take 4) := by
 unfold Z4
 by_cases h8 : s.length < 8
 ·rw [Qbj hr h8]; simp [h8]
 ·have h3 := Q99 (s := s) (l := l) (by omega)
  by_cases h0 : (Yt s l).2 = 0
  ·rw [if_neg (by simp [h0])]
   by_cases hn : s.length < Wd (s.take 4)
   ·rw [if_pos hn]; simp [h0, hn]
   ·rw [if_neg hn]; simp [h0, hn, h8, Qcs]
  ·rw [if_pos h0]; simp [h0, h8, h3]
theorem Q68 {s : List UInt8} {l : Qa} (hr : Xf l = false) : Z4 s l = (Q74, 0, 2) := by
 unfold Z4; rw [Q64 hr]; simp
theorem Q8a {s : List UInt8} {l : Qa} (h : (Z4 s l).2.2 ≠ 3) (t : List UInt8) : Z4 (s ++ t) l = Z4 s l := by
 by_cases hr : Xf l = false
 ·rw [Q68 hr, Q68 hr]
 ·have hr' : Xf l = true := by simpa using hr
  have hs := (not_congr (Wq (s := s) hr')).1 h
  have h8 : 8 ≤ s.length := by omega
  have hh := Q8y (l := l) h8 t
  unfold Z4
  rw [hh]
  by_cases h0 : (Yt s l).2 = 0
  ·have hn : ¬ s.length < Wd (s.take 4) := fun hn => hs (.inr ⟨h0, hn⟩)
   have ht : (s ++ t).take 4 = s.take 4 := List.take_append_of_le_length (by omega)
   have hn' : Wd (s.take 4) ≤ s.length := by omega
   rw [ht, if_neg (show ¬ ((Yt s l).2 ≠ 0) from fun q => q h0), if_neg (show ¬ ((Yt s l).2 ≠ 0) from fun q => q h0), if_neg (by rw [List.length_append]; omega), if_neg hn]
   obtain ⟨_, _, _, _, _, q6, _, _⟩ := Q01 h0
   have e4 := (show (s ++ t).getD 4 0 = s.getD 4 0 by simp [List.getD, List.getElem?_append_left (show 4 < s.length by omega)])
   have e5 := (show (s ++ t).getD 5 0 = s.getD 5 0 by simp [List.getD, List.getElem?_append_left (show 5 < s.length by omega)])
   have eb : Q37 (s ++ t) (Wd (s.take 4)) = Q37 s (Wd (s.take 4)) := by
    unfold Q37; rw [e4, List.take_append_of_le_length hn']
   unfold Q2s
   rw [eb, e4, e5, List.take_append_of_le_length h8, List.take_append_of_le_length (show 4 * (s.getD 4 0).toNat ≤ s.length by omega)]
  ·rw [if_pos h0, if_pos h0]
noncomputable def Jx (l : Qa) : Nat → List UInt8 → List Q6 → Int → List Q6 × List UInt8 × Int × Int
 | 0, s, acc, p => (acc, s, p, 0)
 | k + 1, s, acc, p => if (Z4 s l).2.2 = 3 then (acc, s, p, 0) else if (Z4 s l).2.2 ≠ 0 then (acc, [], p, (Z4 s l).2.2)
  else Jx l k (s.drop (Z4 s l).2.1.toNat) (acc ++ [(Z4 s l).1]) (p + (Z4 s l).2.1)
theorem J0 {l : Qa} {s : List UInt8} (h : (Z4 s l).2.2 = 3) (k : Nat) (acc : List Q6) (p : Int) : Jx l k s acc p = (acc, s, p, 0) := by
 cases k with
 | zero => rfl
 | succ k => unfold Jx; rw [if_pos h]
theorem G2 {l : Qa} {s : List UInt8} (h3 : (Z4 s l).2.2 ≠ 3) (h0 : (Z4 s l).2.2 ≠ 0) (k : Nat) (acc : List Q6) (p : Int) : Jx l (k + 1) s acc p = (acc, [], p, (Z4 s l).2.2) := by
 conv => lhs; unfold Jx
 rw [if_neg h3, if_pos h0]
theorem Q1g {l : Qa} {s : List UInt8} (h0 : (Z4 s l).2.2 = 0) (k : Nat) (acc : List Q6) (p : Int) : Jx l (k + 1) s acc p = Jx l k (s.drop (Z4 s l).2.1.toNat) (acc ++ [(Z4 s l).1]) (p + (Z4 s l).2.1) := by
 conv => lhs; unfold Jx
 rw [if_neg (by omega), if_neg (by simp [h0])]
theorem U7 {s : List UInt8} {l : Qa} (h : (Z4 s l).2.2 = 0) : 8 ≤ (Z4 s l).2.1 ∧ (Z4 s l).2.1 ≤ s.length ∧ (Z4 s l).2.1 ≤ l.MaxPacket ∧ Xf l = true := by
 have hh : (Yt s l).2 = 0 := by
  unfold Z4 at h
  split at h
  ·exact h
  ·rename_i hq; exact Classical.byContradiction hq
 obtain ⟨q1, q2, q3, q4, q5, q6, q7, q8⟩ := Q01 hh
 unfold Z4 at h ⊢
 rw [if_neg (show ¬ ((Yt s l).2 ≠ 0) from fun h => h hh)] at h ⊢
 split at h
 ·cases h
 ·rename_i hn
  rw [if_neg hn]
  unfold Q2s Qic at h ⊢
  split at h
  ·rename_i hx; exact absurd h hx
  ·rename_i hx
   rw [if_neg hx]
   exact ⟨by simp only []; omega, by simp only []; omega, by simp only []; omega, q1⟩
theorem Q5y {l : Qa} : ∀ (k k' : Nat) (s : List UInt8) (acc : List Q6) (p : Int), s.length < k → s.length < k' → Jx l k s acc p = Jx l k' s acc p
 | 0, _, _, _, _, h, _ => by omega
 | _, 0, _, _, _, _, h => by omega
 | k + 1, k' + 1, s, acc, p, h, h' => by
  by_cases h3 : (Z4 s l).2.2 = 3
  ·rw [J0 h3, J0 h3]
  ·by_cases h0 : (Z4 s l).2.2 = 0
   ·obtain ⟨q1, q2, _⟩ := U7 h0
    rw [Q1g h0, Q1g h0]
    exact Q5y k k' _ _ _ (by rw [List.length_drop]; omega) (by rw [List.length_drop]; omega)
   ·rw [G2 h3 h0, G2 h3 h0]
theorem Q3u {l : Qa} : ∀ (k : Nat) (s : List UInt8) (acc : List Q6) (p : Int), Jx l k s acc p = (acc ++ (Jx l k s [] 0).1, (Jx l k s [] 0).2.1, p + (Jx l k s [] 0).2.2.1, (Jx l k s [] 0).2.2.2)
 | 0, s, acc, p => by simp [Jx]
 | k + 1, s, acc, p => by
  by_cases h3 : (Z4 s l).2.2 = 3
  ·rw [J0 h3, J0 h3]; simp
  ·by_cases h0 : (Z4 s l).2.2 = 0
   ·rw [Q1g h0, Q1g h0, Q3u k _ (acc ++ [(Z4 s l).1]), Q3u k _ ([] ++ [(Z4 s l).1])]
    simp only [List.append_assoc, List.nil_append, Int.add_assoc, Int.zero_add]
   ·rw [G2 h3 h0, G2 h3 h0]; simp
noncomputable def Qm (l : Qa) (s : List UInt8) : List Q6 × List UInt8 × Int × Int := Jx l (s.length + 1) s [] 0
theorem Qdd {l : Qa} {s : List UInt8} (k : Nat) (h : s.length < k) (acc : List Q6) (p : Int) : Jx l k s acc p = (acc ++ (Qm l s).1, (Qm l s).2.1, p + (Qm l s).2.2.1, (Qm l s).2.2.2) := by
 rw [Q5y k (s.length + 1) s acc p h (by omega), Q3u]; rfl
theorem W6 {l : Qa} {s : List UInt8} (h : (Z4 s l).2.2 = 3) : Qm l s = ([], s, 0, 0) := J0 h _ _ _
theorem U0 {l : Qa} {s : List UInt8} (h3 : (Z4 s l).2.2 ≠ 3) (h0 : (Z4 s l).2.2 ≠ 0) : Qm l s = ([], [], 0, (Z4 s l).2.2) := G2 h3 h0 _ _ _
theorem Ge {l : Qa} {s : List UInt8} (h0 : (Z4 s l).2.2 = 0) : Qm l s = ((Z4 s l).1 :: (Qm l (s.drop (Z4 s l).2.1.toNat)).1, (Qm l (s.drop (Z4 s l).2.1.toNat)).2.1, (Z4 s l).2.1 + (Qm l (s.drop (Z4 s l).2.1.toNat)).2.2.1, (Qm l (s.drop (Z4 s l).2.1.toNat)).2.2.2) := by
 obtain ⟨q1, q2, _⟩ := U7 h0
 unfold Qm
 rw [Q1g h0, Qdd _ (by rw [List.length_drop]; omega)]
 simp [Qm]
theorem Ja {l : Qa} (hr : Xf l = true) : ∀ (n : Nat) (s : List UInt8), s.length ≤ n →
  ((Qm l s).2.2.2 ≠ 0 ∧ (Qm l s).2.1 = [] ∨ (Qm l s).2.2.2 = 0 ∧ (Z4 (Qm l s).2.1 l).2.2 = 3 ∧ (Qm l s).2.2.1 + (Qm l s).2.1.length = s.length) ∧ 0 ≤ (Qm l s).2.2.1 ∧ (Qm l s).2.2.1 ≤ s.length ∧ (Qm l s).2.2.2 ≠ 3
 | 0, s, hn => by
  have h3 : (Z4 s l).2.2 = 3 := (Wq hr).2 (.inl (by omega))
  rw [W6 h3]; simp [h3]
 | n + 1, s, hn => by
  by_cases h3 : (Z4 s l).2.2 = 3
  ·rw [W6 h3]; simp [h3]
  ·by_cases h0 : (Z4 s l).2.2 = 0
   ·obtain ⟨q1, q2, _⟩ := U7 h0
    rw [Ge h0]
    obtain ⟨a, b, c, d⟩ := Ja hr n (s.drop (Z4 s l).2.1.toNat) (by rw [List.length_drop]; omega)
    rw [List.length_drop] at a c
    refine ⟨?_, by simp only []; omega, by simp only []; omega, d⟩
    rcases a with a | ⟨a1, a2, a3⟩
    ·exact .inl a
    ·exact .inr ⟨a1, a2, by simp only []; omega⟩
   ·rw [U0 h3 h0]; simp [h0, h3]
theorem Q69 {l : Qa} (t : List UInt8) : ∀ (n : Nat) (s : List UInt8), s.length ≤ n → Qm l (s ++ t) = if (Qm l s).2.2.2 ≠ 0 then Qm l s else
  ((Qm l s).1 ++ (Qm l ((Qm l s).2.1 ++ t)).1, (Qm l ((Qm l s).2.1 ++ t)).2.1, (Qm l s).2.2.1 + (Qm l ((Qm l s).2.1 ++ t)).2.2.1, (Qm l ((Qm l s).2.1 ++ t)).2.2.2)
 | n, s, hn => by
  by_cases h3 : (Z4 s l).2.2 = 3
  ·rw [W6 h3]; simp
  ·have hm := Q8a h3 t
   by_cases h0 : (Z4 s l).2.2 = 0
   ·obtain ⟨q1, q2, _⟩ := U7 h0
    match n, hn with
    | 0, hn => omega
    | n + 1, hn =>
     have ih := Q69 (l := l) t n (s.drop (Z4 s l).2.1.toNat) (by rw [List.length_drop]; omega)
     have h0' : (Z4 (s ++ t) l).2.2 = 0 := by rw [hm]; exact h0
     rw [Ge h0', hm, List.drop_append_of_le_length (by omega), ih, Ge h0]
     simp only []
     by_cases he : (Qm l (s.drop (Z4 s l).2.1.toNat)).2.2.2 = 0
     ·rw [if_neg (by simp [he]), if_neg (by simp [he])]
      simp [Int.add_assoc]
     ·rw [if_pos he, if_pos he]
   ·have h0' : (Z4 (s ++ t) l).2.2 ≠ 0 := by rw [hm]; exact h0
    rw [U0 (by rw [hm]; exact h3) h0', hm, U0 h3 h0]
    simp [h0]
theorem Qg3 {l : Qa} {s : List UInt8} (hr : Xf l = true) (h : (Z4 s l).2.2 = 3) : (s.length : Int) < l.MaxPacket := by
 obtain ⟨r1, _⟩ := Q3a hr
 rcases (Wq hr).1 h with h8 | ⟨h0, hn⟩
 ·omega
 ·obtain ⟨_, _, q3, _⟩ := Q01 h0
  omega
end
end Go.Av
namespace Go.Av
noncomputable section
open Go.Proofs
set_option maxRecDepth 100000
abbrev Qhm := Q3
theorem Qb1 (s : List UInt8) (a b : Nat) : (((Q0v s : List Int).drop a).take b).map (fun n => UInt8.ofNat n.toNat) = (s.drop a).take b := by
 simp only [Q0v, ← List.map_drop, ← List.map_take]
 exact Qet _
theorem Qfk {N : Nat} (hN : N = 800000000) (l : Qa) (s : List UInt8) (i : Nat) (hi : i ≤ s.length) (p need e : Int) (q : Nat) (out : List Q6) :
  Zh N ⟨l, Q0v s, (i : Int), p, need, e, q, out⟩ = some (if (s.drop i).length < 8 then (false, ⟨l, Q0v s, (i : Int), p, need, e, q, out⟩)
   else if (Yt (s.drop i) l).2 ≠ 0 then (false, ⟨l, [], 0, p, 0, (Yt (s.drop i) l).2, q, out⟩) else (true, ⟨l, Q0v s, (i : Int), p, (Yt (s.drop i) l).1, e, Z8, out⟩)) := by
 simp only [Zh, Qr, U6, V9, Um, Int.toNat_natCast]
 rw [if_pos (by simp), if_pos (by simp [Nat.ble_eq]; exact hi), List.length_drop]
 by_cases h : s.length - i < 8
 ·rw [if_pos (by omega), if_pos h]
 ·rw [if_neg (by omega), if_neg h, if_pos (by simp [Nat.ble_eq]; omega), Qb1, Q9x hN]
  simp only [Option.bind_some, Nat.zero_add, Nat.mul_one]
  have e8 : Yt ((s.drop i).take 8) l = Yt (s.drop i) l := Qem l (by rw [List.length_take, List.length_drop]; omega) (by rw [List.length_drop]; omega) (by rw [List.take_take]; rfl)
  rw [e8]
  by_cases he : (Yt (s.drop i) l).2 = 0
  ·rw [if_neg (show ¬ ((Yt (s.drop i) l).2 ≠ 0) from fun k => k he), if_neg (show ¬ ((Yt (s.drop i) l).2 ≠ 0) from fun k => k he)]
  ·rw [if_pos (show (Yt (s.drop i) l).2 ≠ 0 from he), if_pos (show (Yt (s.drop i) l).2 ≠ 0 from he)]
   simp only [Zt, Option.bind_some]
theorem Qjw {α : Type} (l : List α) (a b : α) : (l ++ [a]).set l.length b = l ++ [b] := by simp
theorem Qjv {α : Type} (l : List α) (a : α) : idx (l ++ [a]) (l.length : Int) = some a := by simp [idx]
theorem Qdo {N : Nat} (hN : N = 800000000) {l : Qa} {s : List UInt8} {i : Nat} (hi : i ≤ s.length) (hs : s.length ≤ 300000) {p need : Int} (e : Int) (q : Nat) {out : List Q6} (hp : 0 ≤ p ∧ p ≤ 1000000000000) (ho : out.length ≤ 300000)
  (hd : Yt (s.drop i) l = (need, 0)) : Zi N ⟨l, Q0v s, (i : Int), p, need, e, q, out⟩ = some (if (Z4 (s.drop i) l).2.2 = 3 then (false, ⟨l, Q0v s, (i : Int), p, need, e, q, out⟩)
   else if (Z4 (s.drop i) l).2.2 ≠ 0 then (false, ⟨l, [], 0, p, 0, (Z4 (s.drop i) l).2.2, q, out⟩)
   else (true, ⟨l, Q0v s, ((i + (Z4 (s.drop i) l).2.1.toNat : Nat) : Int), p + (Z4 (s.drop i) l).2.1, need, e, Qn, out ++ [(Z4 (s.drop i) l).1]⟩)) := by
 obtain ⟨q1, q2, q3, q4, q5, q6, q7, q8⟩ := Q01 (show (Yt (s.drop i) l).2 = 0 by rw [hd])
 rw [hd] at q8
 have hnd : need = (Wd ((s.drop i).take 4) : Int) := by
  have := congrArg Prod.fst q8
  simpa using this
 have hsh := Wq (s := s.drop i) q1
 rw [hd] at hsh
 have hL : (s.drop i).length = s.length - i := List.length_drop
 rw [hL] at q2
 simp only [Zi, Qr, U6, V9, Um, Int.toNat_natCast]
 rw [if_pos (by simp), if_pos (by simp [Nat.ble_eq]; exact hi)]
 by_cases h : s.length - i < Wd ((s.drop i).take 4)
 ·rw [if_pos (by omega), if_pos (hsh.2 (.inr ⟨rfl, by rw [hL]; exact h⟩))]
 ·have h3 : (Z4 (s.drop i) l).2.2 ≠ 3 := fun k => by
   rcases hsh.1 k with k | ⟨_, k⟩ <;> rw [hL] at k <;> omega
  have ht : need.toNat = Wd ((s.drop i).take 4) := by rw [hnd]; simp
  have hrd : Z4 ((s.drop i).take need.toNat) l = Z4 (s.drop i) l := by
   have hh : Yt ((s.drop i).take need.toNat) l = Yt (s.drop i) l := Qem l (by rw [List.length_take, hL]; omega) (by rw [hL]; omega) (by rw [List.take_take]; congr 1; omega)
   have h4 : ((s.drop i).take need.toNat).take 4 = (s.drop i).take 4 := by rw [List.take_take]; congr 1; omega
   have hk : (Z4 ((s.drop i).take need.toNat) l).2.2 ≠ 3 := fun k => by
    rcases (Wq q1).1 k with k | ⟨_, k⟩
    ·rw [List.length_take, hL] at k; omega
    ·rw [h4, List.length_take, hL] at k; omega
   have := Q8a hk ((s.drop i).drop need.toNat)
   rw [List.take_append_drop] at this
   exact this.symm
  rw [if_neg (by omega), if_neg h3, if_pos (by rw [decide_eq_true_eq]; omega), if_pos (by simp [Nat.ble_eq]; omega), Qb1]
  simp only [Nat.zero_add, Nat.mul_one]
  rw [Qfu hN _ _ (by rw [List.length_take, hL]; omega), hrd]
  simp only [Option.bind_some]
  by_cases he : (Z4 (s.drop i) l).2.2 = 0
  ·obtain ⟨m1, m2, m3, m4⟩ := U7 he
   rw [hL] at m2
   rw [if_neg (show ¬ ((Z4 (s.drop i) l).2.2 ≠ 0) from fun k => k he), if_neg (show ¬ ((Z4 (s.drop i) l).2.2 ≠ 0) from fun k => k he), if_pos (by rw [Nat.ble_eq]; omega), Qjv]
   simp only [Option.bind_some, Qjw]
   rw [Y9 _ (by omega), Y9 _ (by omega)]
   congr 4
   omega
  ·rw [if_pos (show (Z4 (s.drop i) l).2.2 ≠ 0 from he), if_pos (show (Z4 (s.drop i) l).2.2 ≠ 0 from he)]
   simp only [Zt, Option.bind_some]
def Qli (x : Qhm) : Option ((List Q6 × Int) × Qhm) :=
  cond (Qe .gtr x.from' 0)
  (cond (decide (0 ≤ x.from')) (cond (Nat.ble x.from'.toNat x.kept.length && Nat.ble x.kept.length x.kept.length) (cond (Nat.ble 1 x.kept.length) (cond (Nat.ble 0 (((((x.kept : List Int).drop (0 + x.from'.toNat * 1)).take (x.kept.length - x.from'.toNat)).take x.kept.length).length) && Nat.ble (((((x.kept : List Int).drop (0 + x.from'.toNat * 1)).take (x.kept.length - x.from'.toNat)).take x.kept.length).length) x.kept.length) (some ((x.out, x.e), (⟨x.l, (((((((x.kept : List Int).drop (0 + x.from'.toNat * 1)).take (x.kept.length - x.from'.toNat)).take x.kept.length) ++ (x.kept : List Int).drop ((((x.kept : List Int).drop (0 + x.from'.toNat * 1)).take (x.kept.length - x.from'.toNat)).take x.kept.length).length) : List Int).take (((((x.kept : List Int).drop (0 + x.from'.toNat * 1)).take (x.kept.length - x.from'.toNat)).take x.kept.length).length)), 0, x.at', x.need, x.e, x.next, []⟩ : Q3))) none) none) none) none)
  (some ((x.out, x.e), (⟨x.l, x.kept, x.from', x.at', x.need, x.e, x.next, []⟩ : Q3)))
theorem Q78 (l : Qa) (s : List UInt8) (i : Nat) (hi : i ≤ s.length) (p need e : Int) (q : Nat) (out : List Q6) : Qli ⟨l, Q0v s, (i : Int), p, need, e, q, out⟩ = some ((out, e), ⟨l, Q0v (s.drop i), 0, p, need, e, q, []⟩) := by
 simp only [Qli, Qr, Q33, Um, Int.toNat_natCast, Nat.zero_add, Nat.mul_one]
 by_cases h0 : i = 0
 ·subst h0
  rw [if_neg (by simp)]; rfl
 ·have e1 : ((Q0v s).drop i).take (s.length - i) = Q0v (s.drop i) := by
   rw [List.take_of_length_le (by rw [List.length_drop, Um]; omega)]
   simp [Q0v]
  have e2 : (Q0v (s.drop i)).take s.length = Q0v (s.drop i) := List.take_of_length_le (by rw [Um, List.length_drop]; omega)
  rw [if_pos (by omega), if_pos (by simp), if_pos (by simp [Nat.ble_eq]; exact hi), if_pos (by rw [Nat.ble_eq]; omega), e1, e2, if_pos (by simp [Nat.ble_eq, Um]), List.take_left]
theorem Qj4 (N n : Nat) (l : Qa) (i p need e : Int) (q : Nat) (k : List Int) (out : List Q6) : Qd N (n + 1) l.MaxPacket l.MaxDepth i p need e q k out =
  cond (Nat.beq q Qn) ((Zh N ⟨l, k, i, p, need, e, Qn, out⟩).bind fun v => cond v.1 (Qd N n v.2.l.MaxPacket v.2.l.MaxDepth v.2.from' v.2.at' v.2.need v.2.e v.2.next v.2.kept v.2.out) (Qli v.2))
  (cond (Nat.beq q Z8) ((Zi N ⟨l, k, i, p, need, e, Z8, out⟩).bind fun v => cond v.1 (Qd N n v.2.l.MaxPacket v.2.l.MaxDepth v.2.from' v.2.at' v.2.need v.2.e v.2.next v.2.kept v.2.out) (Qli v.2)) none) := rfl
theorem Qm0 (N : Nat) : Z5 N = Qd N := by
 funext n
 induction n with
 | zero => rfl
 | succ n ih =>
  funext a b c d e f q k o
  simp only [Qd, Z5, ih]
def Qgo (l : Qa) (s : List UInt8) (need : Int) (q : Nat) : Prop := q = Qn ∨ q = Z8 ∧ Yt s l = (need, 0)
theorem Q24 {N : Nat} (hN : N = 800000000) {l : Qa} (hr : Xf l = true) {s : List UInt8} (hs : s.length ≤ 300000) : ∀ (n i : Nat) (p need : Int) (q : Nat) (out : List Q6), i ≤ s.length → Qgo l (s.drop i) need q →
  2 * (s.length - i) + (if q = Qn then 2 else 1) ≤ n → 0 ≤ p → p + (s.length - i : Nat) ≤ 1000000000000 → out.length + (s.length - i) ≤ 300000 →
  ∃ need' q', ((Qm l (s.drop i)).2.2.2 = 0 → Qgo l (Qm l (s.drop i)).2.1 need' q') ∧ Qd N n l.MaxPacket l.MaxDepth (i : Int) p need 0 q (Q0v s) out =
   some ((out ++ (Qm l (s.drop i)).1, (Qm l (s.drop i)).2.2.2), ⟨l, Q0v (Qm l (s.drop i)).2.1, 0, p + (Qm l (s.drop i)).2.2.1, need', (Qm l (s.drop i)).2.2.2, q', []⟩)
 | 0, i, p, need, q, out, _, _, h, _, _, _ => by split at h <;> omega
 | n + 1, i, p, need, q, out, hi, hw, hn, hp, hp2, ho => by
  have hL : (s.drop i).length = s.length - i := List.length_drop
  rw [Qj4]
  rcases hw with rfl | ⟨rfl, hd⟩
  ·rw [Qfk hN l s i hi]
   simp only [Qr, Option.bind_some]
   rw [if_pos (show Nat.beq Qn Qn = true from rfl)]
   rw [if_pos rfl] at hn
   by_cases h8 : (s.drop i).length < 8
   ·have h3 : (Z4 (s.drop i) l).2.2 = 3 := (Wq hr).2 (.inl h8)
    rw [if_pos h8, if_neg (by simp), W6 h3, Q78 l s i hi]
    exact ⟨need, _, fun _ => .inl rfl, by simp⟩
   ·rw [if_neg h8]
    by_cases h0 : (Yt (s.drop i) l).2 = 0
    ·rw [if_neg (show ¬ ((Yt (s.drop i) l).2 ≠ 0) from fun k => k h0)]
     simp only [if_true]
     exact Q24 hN hr hs n i p _ _ out hi (.inr ⟨rfl, Prod.ext rfl h0⟩) (by rw [if_neg (by decide)]; omega) hp hp2 ho
    ·have hre : Z4 (s.drop i) l = (Q74, 0, (Yt (s.drop i) l).2) := by unfold Z4; rw [if_pos h0]
     have h3 : (Yt (s.drop i) l).2 ≠ 3 := Q99 (by omega)
     rw [if_pos (show (Yt (s.drop i) l).2 ≠ 0 from h0), if_neg (by simp), U0 (by rw [hre]; exact h3) (by rw [hre]; exact h0), hre]
     refine ⟨0, Qn, fun k => absurd k h0, ?_⟩
     simp only []
     rw [show ([] : List Int) = Q0v [] from rfl, show (0 : Int) = ((0 : Nat) : Int) from rfl, Q78 l [] 0 (Nat.le_refl _)]
     simp
  ·rw [Qdo hN hi hs 0 _ (by omega) (by omega) hd]
   simp only [Qr, Option.bind_some]
   rw [if_neg (show ¬ Nat.beq Z8 Qn = true by decide), if_pos (show Nat.beq Z8 Z8 = true from rfl)]
   rw [if_neg (by decide)] at hn
   by_cases h3 : (Z4 (s.drop i) l).2.2 = 3
   ·rw [if_pos h3, if_neg (by simp), W6 h3, Q78 l s i hi]
    exact ⟨need, _, fun _ => .inr ⟨rfl, hd⟩, by simp⟩
   ·rw [if_neg h3]
    by_cases h0 : (Z4 (s.drop i) l).2.2 = 0
    ·obtain ⟨m1, m2, m3, m4⟩ := U7 h0
     rw [hL] at m2
     rw [if_neg (show ¬ ((Z4 (s.drop i) l).2.2 ≠ 0) from fun k => k h0)]
     simp only [if_true]
     obtain ⟨need', q', w, ih⟩ := Q24 hN hr hs n (i + (Z4 (s.drop i) l).2.1.toNat) (p + (Z4 (s.drop i) l).2.1) need Qn (out ++ [(Z4 (s.drop i) l).1]) (by omega) (.inl rfl) (by rw [if_pos rfl]; omega) (by omega) (by omega) (by rw [List.length_append]; simp only [List.length_cons, List.length_nil]; omega)
     rw [ih, Ge h0, List.drop_drop]
     exact ⟨need', q', w, by simp [Int.add_assoc]⟩
    ·rw [if_pos (show (Z4 (s.drop i) l).2.2 ≠ 0 from h0), if_neg (by simp), U0 h3 h0]
     refine ⟨0, Z8, fun k => absurd k h0, ?_⟩
     simp only []
     rw [show ([] : List Int) = Q0v [] from rfl, show (0 : Int) = ((0 : Nat) : Int) from rfl, Q78 l [] 0 (Nat.le_refl _)]
     simp
structure Qh0 (x : Qhm) (l : Qa) (s : List UInt8) (p e : Int) : Prop where
 lim : x.l = l
 kept : x.kept = Q0v s
 frm : x.from' = 0
 plc : x.at' = p
 err : x.e = e
 none : x.out = []
 bad : e ≠ 0 → s = []
 short : e = 0 → (Z4 s l).2.2 = 3
 waits : e = 0 → Qgo l s x.need x.next
theorem Qh2 {N : Nat} {x : Qhm} {l : Qa} {s : List UInt8} {p e : Int} (h : Qh0 x l s p e) (he : e ≠ 0) (c : List UInt8) : Qo N x c = some (([], e), x) := by
 simp only [Qo, Qr, V9, h.err]
 rw [if_pos he]
theorem Qiw {N : Nat} (hN : N = 800000000) {x : Qhm} {l : Qa} (hr : Xf l = true) {s : List UInt8} {p : Int} (h : Qh0 x l s p 0) (c : List UInt8) (hs : s.length + c.length ≤ 100000) (hp : 0 ≤ p) (hp2 : p + s.length + c.length ≤ 1000000000000) :
  ∃ x', Qo N x c = some (((Qm l (s ++ c)).1, (Qm l (s ++ c)).2.2.2), x') ∧ Qh0 x' l (Qm l (s ++ c)).2.1 (p + (Qm l (s ++ c)).2.2.1) (Qm l (s ++ c)).2.2.2 := by
 obtain ⟨xl, xk, xf, xa, xn, xe, xq, xo⟩ := x
 obtain ⟨h1, h2, h3, h4, h5, h6, h7, h8, h9⟩ := h
 simp only [] at h1 h2 h3 h4 h5 h6 h9
 subst h1 h2 h3 h4 h5 h6
 have hw : Qgo xl (s ++ c) xn xq := by
  rcases h9 (by simp) with q | ⟨q, hd⟩
  ·exact .inl q
  ·refine .inr ⟨q, ?_⟩
   obtain ⟨_, q2, _⟩ := Q01 (show (Yt s xl).2 = 0 by rw [hd])
   rw [Q8y q2]; exact hd
 have key : ∀ k : List Int, k = Q0v (s ++ c) → ∃ x', Qd N N xl.MaxPacket xl.MaxDepth 0 xa xn 0 xq k [] = some (((Qm xl (s ++ c)).1, (Qm xl (s ++ c)).2.2.2), x') ∧ Qh0 x' xl (Qm xl (s ++ c)).2.1 (xa + (Qm xl (s ++ c)).2.2.1) (Qm xl (s ++ c)).2.2.2 := fun k hk => by
  subst hk
  have hlen : (s ++ c).length = s.length + c.length := List.length_append
  obtain ⟨need', q', w, ih⟩ := Q24 hN hr (s := s ++ c) (by omega) N 0 xa xn xq [] (Nat.zero_le _) hw (by subst hN; split <;> omega) hp (by simp only [Nat.sub_zero]; omega) (by simp only [List.length_nil, Nat.sub_zero]; omega)
  rw [List.drop_zero] at ih w
  refine ⟨_, ih, rfl, rfl, rfl, rfl, rfl, rfl, fun hb => ?_, fun h0 => ?_, fun h0 => w h0⟩
  ·rcases (Ja hr _ (s ++ c) (Nat.le_refl _)).1 with ⟨_, b⟩ | ⟨b, _⟩
   ·exact b
   ·exact absurd b hb
  ·rcases (Ja hr _ (s ++ c) (Nat.le_refl _)).1 with ⟨b, _⟩ | ⟨_, b, _⟩
   ·exact absurd h0 b
   ·exact b
 simp only [Qo, Qr, V9]
 rw [if_neg (by simp)]
 by_cases hc : c = []
 ·subst hc
  rw [if_pos (show Nat.beq ([] : List UInt8).length 0 = true from rfl)]
  exact key _ (by simp)
 ·rw [if_neg (by cases c with
   | nil => exact absurd rfl hc
   | cons => simp [Nat.beq_eq]), if_pos (by rw [Nat.ble_eq, Um]; omega), Qm0]
  exact key _ (by rw [Qkf, Qg4])
end
end Go.Av
namespace Go.Av
noncomputable section
open Go.Proofs
set_option maxRecDepth 100000
theorem Qj1 : Yh 800000000 = some true := by decide +kernel
theorem Qho (l : Qa) (hr : Xf l = true) : Qh0 ⟨l, [], 0, 0, 0, 0, Qn, []⟩ l (Qm l []).2.1 (Qm l []).2.2.1 (Qm l []).2.2.2 := by
 have h3 : (Z4 [] l).2.2 = 3 := (Wq hr).2 (.inl (by simp))
 rw [W6 h3]
 exact ⟨rfl, rfl, rfl, rfl, rfl, rfl, fun _ => rfl, fun _ => h3, fun _ => .inl rfl⟩
theorem Q9e (l : Qa) (hr : Xf l = true) : Qm l [] = ([], [], 0, 0) := W6 ((Wq hr).2 (.inl (by simp)))
theorem Q8v {N : Nat} (hN : N = 800000000) {x : Qhm} {l : Qa} (hr : Xf l = true) {t : List UInt8} (h : Qh0 x l (Qm l t).2.1 (Qm l t).2.2.1 (Qm l t).2.2.2) (c : List UInt8) (hs : t.length + c.length ≤ 100000) :
  ∃ fs x', Qo N x c = some ((fs, (Qm l (t ++ c)).2.2.2), x') ∧ Qh0 x' l (Qm l (t ++ c)).2.1 (Qm l (t ++ c)).2.2.1 (Qm l (t ++ c)).2.2.2 ∧ (Qm l t).1 ++ fs = (Qm l (t ++ c)).1 ∧ ((Qm l t).2.2.2 = 0 → fs = (Qm l ((Qm l t).2.1 ++ c)).1) := by
 have ha := Q69 (l := l) c _ t (Nat.le_refl _)
 by_cases he : (Qm l t).2.2.2 = 0
 ·rw [if_neg (show ¬ ((Qm l t).2.2.2 ≠ 0) from fun k => k he)] at ha
  rw [he] at h
  have hd := Ja hr _ t (Nat.le_refl _)
  have hl : (Qm l t).2.2.1 + (Qm l t).2.1.length = t.length := by
   rcases hd.1 with ⟨b, _⟩ | ⟨_, _, b⟩
   ·exact absurd he b
   ·exact b
  obtain ⟨x', h1, h2⟩ := Qiw hN hr h c (by omega) hd.2.1 (by omega)
  rw [ha]
  exact ⟨_, x', h1, h2, rfl, fun _ => rfl⟩
 ·rw [if_pos he] at ha
  rw [ha]
  exact ⟨[], x, Qh2 h he c, h, by simp, fun k => absurd k he⟩
theorem Qau {N : Nat} (hN : N = 800000000) (l : Qa) : Zw N [] l = some (if Xf l = true then (0, 3) else (0, 2)) := by
 rw [Q9x hN]
 by_cases hr : Xf l = true
 ·rw [if_pos hr, Qbj hr (by simp)]
 ·rw [if_neg hr, Q64 (by simpa using hr)]
theorem Qkz {N : Nat} {x : Qhm} {l : Qa} {s : List UInt8} {p e : Int} (h : Qh0 x l s p e) : Zs N x = some (p, x) := by
 simp only [Zs, h.plc]
theorem Jg {l : Qa} : ∀ (n : Nat) (s : List UInt8), s.length ≤ n → s.length ≤ 100000 → 8 * (Qm l s).1.length ≤ s.length ∧ ∀ f ∈ (Qm l s).1, Q0.szs f.Values ≤ 1001 * 100000
 | n, s, hn, hs => by
  by_cases h3 : (Z4 s l).2.2 = 3
  ·rw [W6 h3]; simp
  ·by_cases h0 : (Z4 s l).2.2 = 0
   ·obtain ⟨q1, q2, _⟩ := U7 h0
    match n, hn with
    | 0, hn => omega
    | n + 1, hn =>
     have ih := Jg (l := l) n (s.drop (Z4 s l).2.1.toNat) (by rw [List.length_drop]; omega) (by rw [List.length_drop]; omega)
     rw [Ge h0]
     refine ⟨by have := ih.1; rw [List.length_drop] at this; simp only [List.length_cons]; omega, fun f hf => ?_⟩
     rcases List.mem_cons.1 hf with rfl | hf
     ·have := Qdl s l (by omega)
      omega
     ·exact ih.2 f hf
   ·rw [U0 h3 h0]; simp
theorem Qfj {α : Type} [DecidableEq α] (l m : List α) (i : Nat) (h : i < l.length) (h' : i < m.length) : decide (l.drop i = m.drop i) = (decide (l[i] = m[i]) && decide (l.drop (i + 1) = m.drop (i + 1))) := by
 rw [Bool.eq_iff_iff]
 simp only [decide_eq_true_eq, Bool.and_eq_true]
 rw [List.drop_eq_getElem_cons h, List.drop_eq_getElem_cons h', List.cons.injEq]
theorem Q9h {N : Nat} (hN : N = 800000000) {a b : List Q6} (ha : ∀ f ∈ a, Q0.szs f.Values < 700000000) (hl : a.length = b.length) (hs : a.length < 100000000) : ∀ (n i : Nat), i ≤ a.length → a.length - i < n → Zd N a b n (i : Int) = some (decide (a.drop i = b.drop i))
 | 0, i, _, h => by omega
 | n + 1, i, hi, hn => by
  simp only [Zd, Qr, U6, Xj]
  by_cases h : i < a.length
  ·have ih := Q9h hN ha hl hs n (i + 1) (by omega) (by omega)
   rw [if_pos (by omega)]
   simp only [idx, List.getElem?_eq_getElem h, List.getElem?_eq_getElem (hl ▸ h), Option.bind_some]
   rw [Qg8 hN _ _ (ha _ (List.getElem_mem h))]
   simp only [Option.bind_some]
   rw [Y9 _ (by omega), show ((i : Int) + 1) = ((i + 1 : Nat) : Int) by push_cast; rfl, ih]
   have e := Qfj a b i h (hl ▸ h)
   rw [e]
   by_cases hf : a[i] = b[i] <;> simp [hf]
  ·rw [if_neg (by omega), List.drop_of_length_le (by omega), List.drop_of_length_le (by omega)]; simp
theorem Qeb {N : Nat} (hN : N = 800000000) {a b : List Q6} (ha : ∀ f ∈ a, Q0.szs f.Values < 700000000) (hs : a.length < 100000000) : Zp N a b = some (decide (a = b)) := by
 simp only [Zp, Qr, V9, Xj]
 by_cases hl : a.length = b.length
 ·rw [if_neg (by omega)]
  exact Q9h hN ha hl hs N 0 (by omega) (by omega)
 ·rw [if_pos (by omega)]
  have : a ≠ b := fun h => hl (by rw [h])
  simp [this]
theorem Qh6 {N : Nat} (hN : N = 800000000) (l : Qa) (s : List UInt8) (hs : s.length ≤ 100000) : Yy N l s = some (if Xf l = true then ((Qm l s).1, (Qm l s).2.2.1, (Qm l s).2.2.2) else ([], 0, 2)) := by
 simp only [Yy, Qr, V9, Ue]
 rw [Qau hN]
 by_cases hr : Xf l = true
 ·obtain ⟨fs, x', h1, h2, h3, _⟩ := Q8v hN hr (Qho l hr) s (by simp; omega)
  rw [if_pos hr, if_pos hr]
  simp only [Option.bind_some]
  rw [if_neg (by decide), h1]
  simp only [Option.bind_some]
  rw [Qkz h2]
  simp only [Option.bind_some]
  rw [Q9e l hr] at h3
  simp only [List.nil_append] at h3
  simp only [List.nil_append, h3]
 ·rw [if_neg hr, if_neg hr]
  simp only [Option.bind_some]
  simp
theorem Qhl {N : Nat} {by_1 : List Int} (hb : by_1.length < 1000000) : ∀ (n i : Nat) (s : List UInt8) (acc : List (List UInt8)), s.length < 1000000 → acc.length = i → i ≤ by_1.length → by_1.length - i < n →
  ∃ cs, Y5 N by_1 n s (i : Int) acc = some (acc ++ cs) ∧ cs.flatten = s ∧ cs.length = by_1.length - i + 1
 | 0, _, _, _, _, _, _, h => by omega
 | n + 1, i, s, acc, hs, ha, hi, hn => by
  simp only [Y5, Qr, U6, Xj]
  by_cases h : i < by_1.length
  ·rw [if_pos (by omega)]
   simp only [idx, List.getElem?_eq_getElem h, Option.bind_some]
   rw [Y9 _ (by omega), show ((s.length : Int) + 1) = ((s.length + 1 : Nat) : Int) by push_cast; rfl]
   obtain ⟨k, hk, hk2⟩ : ∃ k : Nat, by_1[i] % ((s.length + 1 : Nat) : Int) = (k : Int) ∧ k ≤ s.length := by
    have m1 := Int.emod_nonneg by_1[i] (show ((s.length + 1 : Nat) : Int) ≠ 0 by omega)
    have m2 := Int.emod_lt_of_pos by_1[i] (show 0 < ((s.length + 1 : Nat) : Int) by omega)
    exact ⟨(by_1[i] % ((s.length + 1 : Nat) : Int)).toNat, by omega, by omega⟩
   rw [Qis N _ _ (by omega) (by omega), hk]
   simp only [Option.bind_some]
   rw [if_pos (by simp), if_pos (by simp [Nat.ble_eq]; omega), if_pos (by rw [Nat.ble_eq]; omega), if_pos (by simp [Nat.ble_eq]; omega), Y9 _ (by omega), show ((i : Int) + 1) = ((i + 1 : Nat) : Int) by push_cast; rfl]
   simp only [Int.toNat_natCast, List.take_length, List.drop_zero]
   obtain ⟨cs, h1, h2, h3⟩ := Qhl hb n (i + 1) (s.drop k) (acc ++ [s.take k]) (by rw [List.length_drop]; omega) (by simp [ha]) (by omega) (by omega)
   refine ⟨s.take k :: cs, by rw [h1]; simp, by simp [h2], by simp [h3]; omega⟩
  ·rw [if_neg (by omega), if_pos (by rw [Nat.ble_eq]; omega)]
   exact ⟨[s], rfl, by simp, by simp; omega⟩
theorem Qk4 {N : Nat} (hN : N = 800000000) (s : List UInt8) (by_1 : List Int) (hb : by_1.length < 1000000) (hs : s.length < 1000000) : ∃ cs, Yw N s by_1 = some cs ∧ cs.flatten = s ∧ cs.length = by_1.length + 1 := by
 obtain ⟨cs, h1, h2, h3⟩ := Qhl (N := N) hb N 0 s [] hs rfl (by omega) (by omega)
 exact ⟨cs, by simpa [Yw] using h1, h2, by omega⟩
end
end Go.Av
namespace Go.Av
noncomputable section
open Go.Proofs
set_option maxRecDepth 100000
theorem Qfp {α : Type} (cs : List (List α)) (i : Nat) (h : i < cs.length) : (cs.take (i + 1)).flatten = (cs.take i).flatten ++ cs[i] := by
 rw [List.take_succ_eq_append_getElem h, List.flatten_append]; simp
theorem Qdz {α : Type} (cs : List (List α)) (i : Nat) : (cs.take i).flatten.length ≤ cs.flatten.length := by
 conv => rhs; rw [← List.take_append_drop i cs]
 rw [List.flatten_append, List.length_append]; omega
theorem Qdp {N : Nat} (hN : N = 800000000) {l : Qa} (hr : Xf l = true) {s : List UInt8} (hs : s.length ≤ 300) {cs : List (List UInt8)} (hc : cs.flatten = s) (hl : cs.length ≤ 100) : ∀ (n i : Nat) (x : Qhm), i ≤ cs.length → cs.length - i < n →
  Qh0 x l (Qm l (cs.take i).flatten).2.1 (Qm l (cs.take i).flatten).2.2.1 (Qm l (cs.take i).flatten).2.2.2 →
  Qg N l ((Qm l s).1, (Qm l s).2.2.1, (Qm l s).2.2.2) cs n (i : Int) x.l.MaxPacket x.l.MaxDepth x.from' x.at' x.need x.e x.next x.kept x.out (Qm l (cs.take i).flatten).1 = some true
 | 0, i, _, _, h, _ => by omega
 | n + 1, i, x, hi, hn, hx => by
  simp only [Qg, Qr, U6, V9, Qcj, Ue, Xj]
  by_cases h : i < cs.length
  ·have hlen := Qdz cs i
   have hle2 := Qdz cs (i + 1)
   have hft := Qfp cs i h
   rw [hc] at hlen hle2
   rw [if_pos (by omega)]
   simp only [idx, List.getElem?_eq_getElem h, Option.bind_some]
   obtain ⟨fs, x', h1, h2, h3, _⟩ := Q8v hN hr hx cs[i] (by rw [hft, List.length_append] at hle2; omega)
   rw [show Qo N ⟨⟨x.l.MaxPacket, x.l.MaxDepth⟩, x.kept, x.from', x.at', x.need, x.e, x.next, x.out⟩ cs[i] = _ from h1]
   simp only [Option.bind_some]
   rw [← hft] at h2 h3 ⊢
   have hsz := Jg (l := l) _ (cs.take i).flatten (Nat.le_refl _) (by omega)
   have hsz2 := Jg (l := l) _ (cs.take (i + 1)).flatten (Nat.le_refl _) (by omega)
   have hfl : fs.length ≤ 300 := by
    have := congrArg List.length h3
    rw [List.length_append] at this; omega
   have hkm : ((Qm l (cs.take (i + 1)).flatten).2.1.length : Int) < l.MaxPacket := by
    by_cases he : (Qm l (cs.take (i + 1)).flatten).2.2.2 = 0
    ·exact Qg3 hr (h2.short he)
    ·rw [h2.bad he]
     have := Q3a hr
     simp only [List.length_nil]; omega
   have ih := Qdp hN hr hs hc hl n (i + 1) x' (by omega) (by omega) h2
   have hbad := h2.bad
   obtain ⟨xl, xk, xf, xa, xn, xe, xq, xo⟩ := x'
   obtain ⟨g1, g2, g3, g4, g5, g6, _, _, _⟩ := h2
   simp only [] at g1 g2 g3 g4 g5 g6 ih ⊢
   subst g1 g2 g3 g4 g5 g6
   rw [Y9 _ (by omega), show ((i : Int) + 1) = ((i + 1 : Nat) : Int) by push_cast; rfl]
   simp only [Um]
   by_cases hf : fs.length = 0
   ·have hf' : fs = [] := List.eq_nil_of_length_eq_zero hf
    subst hf'
    rw [List.append_nil] at h3
    rw [← h3] at ih
    rw [if_pos (by simp), if_neg (by simp), if_pos (by simp), if_pos (by simp), if_neg (by simp; omega)]
    by_cases he : (Qm xl (cs.take (i + 1)).flatten).2.2.2 = 0
    ·rw [if_neg (by simp [he])]; exact ih
    ·rw [if_pos he, if_pos (by simp), if_neg (by simp [hbad he])]; exact ih
   ·rw [← h3] at ih
    rw [if_neg (by simpa [Nat.beq_eq] using hf), if_pos (by rw [Nat.ble_eq]; omega), if_neg (by simp), if_pos (by simp), if_pos (by simp), if_neg (by simp; omega)]
    by_cases he : (Qm xl (cs.take (i + 1)).flatten).2.2.2 = 0
    ·rw [if_neg (by simp [he])]; exact ih
    ·rw [if_pos he, if_pos (by simp), if_neg (by simp [hbad he])]; exact ih
  ·rw [if_neg (by omega)]
   have hi' : i = cs.length := by omega
   subst hi'
   rw [List.take_length, hc] at hx ⊢
   have hsz := Jg (l := l) _ s (Nat.le_refl _) (by omega)
   rw [Qeb hN (fun f hf => by have := hsz.2 f hf; omega) (by omega)]
   simp only [Option.bind_some, decide_true, if_true]
   rw [show Zs N ⟨⟨x.l.MaxPacket, x.l.MaxDepth⟩, x.kept, x.from', x.at', x.need, x.e, x.next, x.out⟩ = _ from Qkz hx]
   simp only [Option.bind_some, if_true, X4, hx.err]
   simp [Qe]
theorem Qj9 {N : Nat} (hN : N = 800000000) (hlv : Yh N = some true) (l : Qa) (s : List UInt8) (cuts : List Int) : Zm N l s cuts = some true := by
 simp only [Zm, hlv, Option.bind_some, Qr, Q33, Ue, V9, Xj]
 rw [if_neg (by simp)]
 by_cases h1 : s.length > 300
 ·rw [if_pos (by omega)]
 ·rw [if_neg (by omega)]
  by_cases h2 : cuts.length > 20
  ·rw [if_pos (by omega)]
  ·rw [if_neg (by omega), Qau hN, Qh6 hN l s (by omega)]
   obtain ⟨cs, c1, c2, c3⟩ := Qk4 hN s cuts (by omega) (by omega)
   by_cases hr : Xf l = true
   ·rw [if_pos hr, if_pos hr]
    simp only [Option.bind_some]
    rw [if_neg (by decide), c1]
    simp only [Option.bind_some]
    have h0 := Qho l hr
    have := Qdp hN hr (s := s) (by omega) c2 (by omega) N 0 ⟨l, [], 0, 0, 0, 0, Qn, []⟩ (by omega) (by omega) (by simpa using h0)
    rw [List.take_zero, List.flatten_nil, Q9e l hr] at this
    exact this
   ·rw [if_neg hr, if_neg hr]
    simp only [Option.bind_some]
    simp [Qe]
theorem Q9y (l : Qa) (s : List UInt8) (cuts : List Int) (_ : OkL l) : Zm 800000000 l s cuts = some true := Qj9 rfl Qj1 l s cuts
end
end Go.Av
