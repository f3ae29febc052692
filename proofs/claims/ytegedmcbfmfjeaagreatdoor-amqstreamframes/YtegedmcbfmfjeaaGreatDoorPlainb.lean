/- The law. Part of a proof of a given statement: for every input the law returns true and the arguments read as before; no condition beyond the given row. -/
import Derived.Test.YtegedmcbfmfjeaaGreatDoorPlain
import Derived.Test.YtegedmcbfmfjeaaGreatDoorLiftF3
namespace Go.Av
noncomputable section
open Go.Proofs
set_option maxRecDepth 100000
def Qr2 (k : Nat) : Bool := !(Vk k).2.2.2.2 || (if (Vk k).2.2.2.1 then decide (((Vk k).2.2.1 = 1 ∨ (Vk k).2.2.1 = 4) ∧ 22 ≤ (Vk k).2.1 ∧ (Vk k).2.1 ≤ 24) else decide ((Vk k).2.1 = 25 ∨ (Vk k).2.1 = 22))
theorem Qn9 : ((List.range 40).all Qr2) = true := by decide +kernel
theorem Qrp {P : Int × Int × Int × Bool × Bool → Prop} {B : Nat → Bool} (hB : ((List.range 40).all B) = true) (hP : ∀ k, B k = true → P (Vk k)) {code : Int} (h : ofB code = true) : P (ofT code) := by
 have h1 : bsI code < 40 ∧ Jm (bsI code) = code := by simpa [ofB] using h
 have := List.all_eq_true.1 hB (bsI code) (by simpa using h1.1)
 have e : ofT code = Vk (bsI code) := by unfold ofT; rw [if_pos h]
 rw [e]; exact hP _ this
theorem Gr {code : Int} (h : ofB code = true) (hi : (ofS code).Items = true) : ((ofS code).Sized = true → ((ofS code).Width = 1 ∨ (ofS code).Width = 4) ∧ 22 ≤ (ofS code).Kind ∧ (ofS code).Kind ≤ 24) ∧ ((ofS code).Sized = false → (ofS code).Kind = 25 ∨ (ofS code).Kind = 22) :=
 Qrp (P := fun t => t.2.2.2.2 = true → (t.2.2.2.1 = true → (t.2.2.1 = 1 ∨ t.2.2.1 = 4) ∧ 22 ≤ t.2.1 ∧ t.2.1 ≤ 24) ∧ (t.2.2.2.1 = false → t.2.1 = 25 ∨ t.2.1 = 22)) Qn9 (fun k hk h1 => by
  simp only [Qr2, h1, Bool.not_true, Bool.false_or] at hk
  refine ⟨fun h2 => ?_, fun h2 => ?_⟩
  ·rw [h2] at hk; simpa using hk
  ·rw [h2] at hk; simpa using hk) h hi
theorem Qli {R : List UInt8 → Int → Option Rd} {N : Nat} {most : Int} {rd : List UInt8 → Rd} {text : List UInt8} (hm : 1 ≤ most ∧ most ≤ 32) (ht : text.length ≤ 600000) (hN : 100 < N) (hR : ∀ s, s.length ≤ text.length → R s (most - 1) = some (rd s)) (hg : Qp4 rd) :
  ∀ (n i at' : Nat) (l : List Q0), i ≤ 2 → 2 - i < n → at' ≤ text.length → l.length = i →
  Yd R N most n (i : Int) text (at' : Int) 0 l = some (if (Ut rd (2 - i) (text.drop at') l).2 ≠ 0 then (Q0i, 0, (Ut rd (2 - i) (text.drop at') l).2) else (⟨25, 0, [], (Ut rd (2 - i) (text.drop at') l).1.1⟩, ((text.length - (Ut rd (2 - i) (text.drop at') l).1.2.length : Nat) : Int), 0))
 | 0, i, at', l, _, h, _, _ => by omega
 | n + 1, i, at', l, hi, hn, ha, hl => by
  simp only [Yd, Qb, W2, Vi, Vb, Qcq N text at' 0 ha, Option.bind_some, Z1 (most - 1) (show _ by omega), hR (text.drop at') (by rw [List.length_drop]; omega)]
  by_cases hic : i < 2
  ·rw [if_pos (by omega)]
   obtain ⟨k, hk⟩ : ∃ k, 2 - i = k + 1 := ⟨2 - i - 1, by omega⟩
   rw [hk, Ut]
   have hgd := hg (text.drop at') (by rw [List.length_drop]; omega)
   generalize hr : rd (text.drop at') = r at hgd ⊢
   obtain ⟨x, m, e⟩ := r
   simp only [] at hgd ⊢
   by_cases he : e = 0
   ·subst he
    obtain ⟨g1, g2, g3⟩ := hgd rfl
    rw [List.length_drop] at g2
    obtain ⟨mm, rfl⟩ := Int.eq_ofNat_of_zero_le g1
    rw [if_pos rfl, Q2s N text at' mm (by unfold Qaw; omega) ha (by omega), if_pos (by omega)]
    simp only [Option.bind_some]
    rw [if_neg (by simp), if_pos (by simp [Nat.ble_eq]; omega), Z1 _ (by omega), if_neg (show ¬ ((0 : Int) ≠ 0) by simp)]
    have ih := Qli hm ht hN hR hg n (i + 1) (at' + mm) (l ++ [x]) (by omega) (by omega) (by omega) (by simp [hl])
    rw [show ((i : Int) + 1) = ((i + 1 : Nat) : Int) by push_cast; rfl, ih, show 2 - (i + 1) = k by omega, Q64 ha]
    simp only [Int.toNat_natCast]
   ·rw [if_neg he, if_pos (show e ≠ 0 from he), if_pos (show e ≠ 0 from he)]
    simp only []
    rw [if_pos (show e ≠ 0 from he)]; rfl
  ·rw [if_neg (by omega), show 2 - i = 0 by omega, Ut]
   simp only [Qq, Option.bind_some]
   rw [if_neg (show ¬ ((0 : Int) ≠ 0) by simp), List.length_drop]
   congr 3
   omega
theorem Q8r {rd : List UInt8 → Rd} {lo : Nat} (hg : Qp4 rd) (hlo : ∀ s, s.length ≤ 600000 → (rd s).2.2 = 0 → (lo : Int) ≤ (rd s).2.1 ∧ (rd s).1.sz + 1000 * lo ≤ 1 + 1000 * (rd s).2.1.toNat) : ∀ (c : Nat) (s : List UInt8) (acc : List Q0), s.length ≤ 600000 → (Ut rd c s acc).2 = 0 →
  ∃ k, k ≤ s.length ∧ (Ut rd c s acc).1.2 = s.drop k ∧ Q0.szs (Ut rd c s acc).1.1 + 1000 * (lo * c) ≤ Q0.szs acc + c + 1000 * k ∧ (Ut rd c s acc).1.1.length = acc.length + c ∧ lo * c ≤ k
 | 0, s, acc, _, _ => ⟨0, by omega, by simp [Ut], by simp [Ut], by simp [Ut], by simp⟩
 | c + 1, s, acc, hs, h => by
  rw [Ut] at h ⊢
  split at h
  ·rename_i he; exact absurd h he
  ·rename_i he
   rw [if_neg he]
   obtain ⟨g0, g0'⟩ := hlo s hs (Classical.byContradiction he)
   obtain ⟨g1, g2, g3⟩ := hg s hs (Classical.byContradiction he)
   obtain ⟨k, k1, k2, k3, k4, k5⟩ := Q8r hg hlo c (s.drop (rd s).2.1.toNat) (acc ++ [(rd s).1]) (by rw [List.length_drop]; omega) h
   rw [List.length_drop] at k1
   refine ⟨(rd s).2.1.toNat + k, by omega, by rw [k2, List.drop_drop], ?_, by rw [k4]; simp; omega, by rw [Nat.mul_succ]; omega⟩
   rw [Q0.szs_app] at k3
   rw [Nat.mul_succ]
   simp only [Q0.szs] at k3
   omega
theorem Q2f {data : Int → List UInt8 → Rd} (h : ∀ code, Qp4 (data code)) : Qp4 (Yz data) ∧ ∀ s, s.length ≤ 600000 → (Yz data s).2.2 = 0 → ((1 : Nat) : Int) ≤ (Yz data s).2.1 ∧ (Yz data s).1.sz + 1000 * 1 ≤ 1 + 1000 * (Yz data s).2.1.toNat := by
 have key : ∀ s, s.length ≤ 600000 → (Yz data s).2.2 = 0 → 1 ≤ (Yz data s).2.1 ∧ (Yz data s).2.1 ≤ s.length ∧ (Yz data s).1.sz + 1000 * 1 ≤ 1 + 1000 * (Yz data s).2.1.toNat := by
  intro s hs he
  cases s with
  | nil => simp [Yz] at he
  | cons b t =>
   simp only [Yz] at he ⊢
   split at he
   ·rename_i h1; exact absurd he h1
   ·rename_i h1
    rw [if_neg h1]
    simp only [List.length_cons] at hs ⊢
    obtain ⟨g1, g2, g3⟩ := h b.toNat t (by omega) (Classical.byContradiction h1)
    refine ⟨by omega, by push_cast; omega, ?_⟩
    have : ((data (b.toNat : Int) t).2.1 + 1).toNat = (data (b.toNat : Int) t).2.1.toNat + 1 := by omega
    rw [this]; omega
 exact ⟨fun s hs he => by obtain ⟨a, b, c⟩ := key s hs he; exact ⟨by omega, b, by omega⟩, fun s hs he => ⟨(key s hs he).1, (key s hs he).2.2⟩⟩
theorem Qs6 {k num : Int} {q : (List Q0 × List UInt8) × Int} {tot : Nat} (h : (Qe9 k num q tot).2.2 = 0) : q.2 = 0 ∧ q.1.2 = [] ∧ Q1f ⟨k, num, [], q.1.1⟩ = 0 ∧ Qe9 k num q tot = (⟨k, num, [], q.1.1⟩, (tot : Int), 0) := by
 unfold Qe9 at h ⊢
 split at h
 ·simp only [] at h
  split at h
  ·cases h
  ·rename_i h1 _; exact absurd h h1
 split at h
 ·cases h
 split at h
 ·rename_i h3; exact absurd h h3
 ·rename_i h1 h2 h3
  rw [if_neg h1, if_neg h2, if_neg h3]
  exact ⟨Classical.byContradiction h1, Classical.byContradiction h2, Classical.byContradiction h3, rfl⟩
theorem Qov {data : Int → List UInt8 → Rd} {c : Qm} {s : List UInt8} (h : (Q71 data c s).2.2 = 0) : ∃ (body : List UInt8) (num : Int) (q : (List Q0 × List UInt8) × Int) (cnt : Nat) (rest : List UInt8), s.length ≥ c.Width.toNat + J6 (s.take c.Width.toNat) ∧ body = (s.drop c.Width.toNat).take (J6 (s.take c.Width.toNat)) ∧ c.Width.toNat ≤ body.length ∧ cnt ≤ 1000 ∧
  ((c.Kind ≠ 24 ∧ num = 0 ∧ rest = body.drop c.Width.toNat ∧ q = Ut (Yz data) cnt rest []) ∨ (c.Kind = 24 ∧ ∃ b : UInt8, body.drop c.Width.toNat = b :: rest ∧ ofB (b.toNat : Int) = true ∧ b.toNat ≠ 0 ∧ num = (ofS (b.toNat : Int)).Kind ∧ q = Ut (data (b.toNat : Int)) cnt rest [])) ∧
  (c.Kind = 23 → cnt % 2 = 0) ∧ (Qe9 c.Kind num q (c.Width.toNat + J6 (s.take c.Width.toNat))).2.2 = 0 ∧ Q71 data c s = Qe9 c.Kind num q (c.Width.toNat + J6 (s.take c.Width.toNat)) := by
 unfold Q71 at h ⊢
 split at h
 ·cases h
 rename_i h1; rw [if_neg h1]
 split at h
 ·cases h
 rename_i h2; rw [if_neg h2]
 unfold Qpc at h ⊢
 split at h
 ·cases h
 rename_i h3; rw [if_neg h3]
 split at h
 ·cases h
 rename_i h4; rw [if_neg h4]
 split at h
 ·cases h
 rename_i h5; rw [if_neg h5]
 split at h
 ·rename_i h6; rw [if_pos h6]
  cases hb : ((s.drop c.Width.toNat).take (J6 (s.take c.Width.toNat))).drop c.Width.toNat with
  | nil => rw [hb] at h; cases h
  | cons b rest =>
   rw [hb] at h
   simp only [Qtj] at h ⊢
   split at h
   ·cases h
   rename_i h7; rw [if_neg h7]
   refine ⟨_, _, _, _, rest, by omega, rfl, by omega, by omega, .inr ⟨h6, b, hb, ?_, ?_, rfl, rfl⟩, fun hk => by omega, h, rfl⟩
   ·cases ho : ofB (b.toNat : Int) with
    | true => rfl
    | false => exact absurd (.inl ho) h7
   ·exact fun ho => h7 (.inr ho)
 ·rename_i h6; rw [if_neg h6]
  exact ⟨_, _, _, _, _, by omega, rfl, by omega, by omega, .inl ⟨h6, rfl, rfl, rfl⟩, fun hk => by
   apply Classical.byContradiction
   intro hn; exact h5 ⟨hk, hn⟩, h, rfl⟩
theorem ar1 {z lo c k r : Nat} (h : z + 1000 * (lo * c) ≤ 0 + c + 1000 * k) (hk : k ≤ r) (hc : c ≤ 1000) : z ≤ 1000 + 1000 * r := by omega
theorem Qfj {code : Int} {s : List UInt8} (hs : s.length ≤ 600000) (h : (Qek code s).2.2 = 0) : 0 ≤ (Qek code s).2.1 ∧ (Qek code s).2.1 ≤ s.length ∧ (Qek code s).1.sz ≤ 1 + 1000 * (Qek code s).2.1.toNat := by
 generalize hg : Qek code s = g at h ⊢
 obtain ⟨x, n, e⟩ := g
 simp only at h
 subst h
 obtain ⟨h1, h2, h3, h4, h5, h6, h7⟩ := reads (by unfold Qaw; omega) hg
 refine ⟨h1, h2, ?_⟩
 rw [Q0.sz_eq, (Gg h5).2.2.2.1]
 simp only [Q0.szs]; omega
theorem Q22 : ∀ (m : Nat) (code : Int), Qp4 (U8 m code) := by
 intro m
 induction m with
 | zero =>
  intro code s hs h
  rw [U8] at h ⊢
  split at h
  ·cases h
  rename_i h1; rw [if_neg h1]
  split at h
  ·rename_i h2; rw [if_pos h2]; exact Qfj hs h
  ·cases h
 | succ m ih =>
  intro code s hs h
  obtain ⟨hrd, hr1⟩ := Q2f ih
  rw [U8] at h ⊢
  split at h
  ·cases h
  rename_i h1; rw [if_neg h1]
  split at h
  ·rename_i h2; rw [if_pos h2]; exact Qfj hs h
  rename_i h2; rw [if_neg h2]
  split at h
  ·rename_i h3; rw [if_pos h3]
   unfold Qpl at h ⊢
   split at h
   ·rename_i h4; exact absurd h h4
   ·rename_i h4
    rw [if_neg h4]
    obtain ⟨k, k1, k2, k3, k4, k5⟩ := Q8r hrd hr1 2 s [] hs (Classical.byContradiction h4)
    simp only [k2, List.length_drop]
    refine ⟨by omega, by omega, ?_⟩
    rw [Q0.sz_eq]
    simp only [Q0.szs] at k3 ⊢
    omega
  rename_i h3; rw [if_neg h3]
  split at h
  ·rename_i h4; rw [if_pos h4]; simp only []; exact ⟨by omega, by omega, by rw [Q0.sz_eq]; simp [Q0.szs]⟩
  ·rename_i h4; rw [if_neg h4]
   obtain ⟨body, num, q, cnt, rest, p1, p2, p3, p4, p5, p6, p7, p8⟩ := Qov h
   obtain ⟨f1, f2, f3, f4⟩ := Qs6 p7
   rw [p8, f4]
   simp only []
   have hbl : body.length ≤ J6 (s.take (ofS code).Width.toNat) := by rw [p2, List.length_take]; omega
   have hq : Q0.szs q.1.1 ≤ 1000 + 1000 * rest.length ∧ rest.length ≤ body.length := by
    rcases p5 with ⟨_, _, e1, e2⟩ | ⟨_, b, e0, _, _, _, e2⟩
    ·have hrl : rest.length ≤ body.length := by rw [e1, List.length_drop]; omega
     have hbl2 : body.length ≤ s.length := by rw [p2, List.length_take, List.length_drop]; omega
     rw [e2] at f1 ⊢
     obtain ⟨k, k1, k2, k3, k4, k5⟩ := Q8r hrd hr1 cnt rest [] (by omega) f1
     simp only [Q0.szs] at k3
     exact ⟨ar1 k3 k1 p4, hrl⟩
    ·have hrl : rest.length ≤ body.length := by
      have := congrArg List.length e0
      rw [List.length_drop, List.length_cons] at this; omega
     have hbl2 : body.length ≤ s.length := by rw [p2, List.length_take, List.length_drop]; omega
     rw [e2] at f1 ⊢
     obtain ⟨k, k1, k2, k3, k4, k5⟩ := Q8r (lo := 0) (ih _) (fun s hs he => ⟨(ih _ s hs he).1, by have := (ih _ s hs he).2.2; omega⟩) cnt rest [] (by omega) f1
     simp only [Q0.szs] at k3
     exact ⟨ar1 k3 k1 p4, hrl⟩
   clear p5
   refine ⟨by omega, by omega, ?_⟩
   have hob : ofB code = true := by
    cases ho : ofB code with
    | true => rfl
    | false => exact absurd ho h1
   have hit : (ofS code).Items = true := by
    cases ho : (ofS code).Items with
    | true => rfl
    | false => exact absurd ho h2
   have hsz : (ofS code).Sized = true := by
    cases ho : (ofS code).Sized with
    | true => rfl
    | false => exact absurd ho h4
   have hw := ((Gr hob hit).1 hsz).1
   rw [Q0.sz_eq]
   simp only [Int.toNat_natCast]
   omega
end
end Go.Av
namespace Go.Av
noncomputable section
open Go.Proofs
set_option maxRecDepth 100000
theorem Qr6 (N : Nat) (s : List UInt8) (i : Nat) (b : UInt8) (t : List UInt8) (h : s.drop i = b :: t) (hs : Qaw s) (hN : 10 < N) : Qv N ⟨s, i, 0⟩ 1 = some ((b.toNat : Int), ⟨s, ((i + 1 : Nat) : Int), 0⟩) := by
 have hl : i < s.length := by
  apply Classical.byContradiction
  intro hn
  rw [List.drop_of_length_le (by omega)] at h; cases h
 simp only [Qv]
 have := Q2s N s i 1 hs (by omega) (by omega)
 rw [show ((1 : Nat) : Int) = 1 from rfl] at this
 rw [this, if_pos (by omega), h]
 simp only [Option.bind_some, List.take_succ_cons, List.take_zero]
 rw [Qa4 N [b] (by simp) hN]
 simp [J6]
theorem Qvb (n : Nat) : ((n : Int).tmod 2 ≠ 0) = (n % 2 ≠ 0) := by
 apply propext
 rw [Int.tmod_eq_emod_of_nonneg (by omega)]
 omega
theorem Qo1 (m : Nat) (h : m ≤ 32) : Q60 (m : Int) = true := decide_eq_true (by omega)
theorem Qta {R1 : List UInt8 → Int → Option Rd} {R2 : Int → List UInt8 → Int → Option Rd} {R3 : List UInt8 → Int → Option Rd} {R4 : Qm → List UInt8 → Int → Option Rd} {N m : Nat} {c : Qm} {s : List UInt8} {data : Int → List UInt8 → Rd}
  (hN : 700000000 < N) (hm : m + 1 ≤ 32) (hs : s.length ≤ 600000) (hw : c.Width = 1 ∨ c.Width = 4) (hg : ∀ code, Qp4 (data code))
  (h1 : ∀ t, t.length ≤ 600000 → R1 t (((m + 1 : Nat) : Int) - 1) = some (Yz data t)) (h2 : ∀ code t, t.length ≤ 600000 → R2 code t (((m + 1 : Nat) : Int) - 1) = some (data code t)) :
  Vr R1 R2 R3 R4 N c s ((m + 1 : Nat) : Int) = some (Q71 data c s) := by
 obtain ⟨w, hw'⟩ : ∃ w : Nat, c.Width = w ∧ (w = 1 ∨ w = 4) := by
  rcases hw with h | h
  ·exact ⟨1, h, .inl rfl⟩
  ·exact ⟨4, h, .inr rfl⟩
 obtain ⟨hw1, hw2⟩ := hw'
 have hgr := (Q2f hg).1
 have hsn : Qaw s := by unfold Qaw; omega
 simp only [Vr, hw1, Q6i N s w hsn (by omega) (by omega), Option.bind_some, Qk, Qb, Vb, Q2e, Vi]
 unfold Q71
 rw [hw1, Int.toNat_natCast]
 by_cases hl : w ≤ s.length
 ·rw [if_pos hl]
  dsimp only
  rw [if_neg (show ¬ s.length < w by omega), if_neg (show ¬ ((0 : Int) ≠ 0) by simp), Q58 N s w 0 hl]
  simp only [Option.bind_some]
  have hlt := Q2w (s.take w)
  have h4 : 256 ^ (s.take w).length ≤ 256 ^ 4 := Nat.pow_le_pow_right (by omega) (by rw [List.length_take]; omega)
  have h5 : (256 : Nat) ^ 4 = 4294967296 := rfl
  generalize hn : J6 (s.take w) = n at *
  rw [Qdv _ (by omega)]
  by_cases h6 : s.length - w < n
  ·rw [if_pos (by omega), if_pos h6]; rfl
  rw [if_neg (by omega), if_neg h6, Z1 _ (by omega), Q2s N s w n hsn hl (by omega), if_pos (by omega)]
  simp only [Option.bind_some]
  have hbl : ((s.drop w).take n).length = n := by rw [List.length_take, List.length_drop]; omega
  generalize hbody : (s.drop w).take n = body at *
  have hbn : Qaw body := by unfold Qaw; omega
  unfold Qpc
  rw [Q6i N body w hbn (by omega) (by omega)]
  simp only [Option.bind_some]
  by_cases h7 : w ≤ body.length
  ·rw [if_pos h7]
   dsimp only
   rw [if_neg (show ¬ body.length < w by omega), if_neg (show ¬ ((0 : Int) ≠ 0) by simp)]
   have hlt2 := Q2w (body.take w)
   generalize hcnt : J6 (body.take w) = cnt at *
   by_cases h8 : 1000 < cnt
   ·rw [if_pos (show (cnt : Int) > 1000 by omega), if_pos h8]; rfl
   rw [if_neg (show ¬ (cnt : Int) > 1000 by omega), if_neg h8]
   simp only [Qvb]
   have hm' : (1 : Int) ≤ ((m + 1 : Nat) : Int) ∧ ((m + 1 : Nat) : Int) ≤ 32 := by omega
   have arr : ∀ (L : (Int × Q1) → (Qm × Bool) → Option Rd), (∀ (b : UInt8) (t : List UInt8), body.drop w = b :: t → ofB (b.toNat : Int) = true → L ((b.toNat : Int), ⟨body, ((w + 1 : Nat) : Int), 0⟩) (ofS (b.toNat : Int), ofB (b.toNat : Int)) = some (Qe9 c.Kind (ofS (b.toNat : Int)).Kind (Ut (data (b.toNat : Int)) cnt t []) (w + n))) →
     ((Z3 N ⟨body, (w : Int), 0⟩).bind fun v20 => if v20.1 = 0 then some ((⟨0, 0, [], []⟩ : Q0), (0 : Int), (5 : Int)) else (Qv N v20.2 1).bind fun v23 => (Vd N (IntKind.i64.wrap v23.1)).bind fun v25 =>
      if (!v25.2) = true then some ((⟨0, 0, [], []⟩ : Q0), (0 : Int), (8 : Int)) else if IntKind.i64.wrap v23.1 = 0 then some ((⟨0, 0, [], []⟩ : Q0), (0 : Int), (8 : Int)) else L v23 v25) = some (Qtj data cnt (w + n) c.Kind (body.drop w)) := by
    intro L hL
    rw [Q58 N body w 0 h7]
    simp only [Option.bind_some]
    cases hd : body.drop w with
    | nil =>
     have : body.length - w = 0 := by
      have := congrArg List.length hd
      rw [List.length_drop] at this; simpa using this
     rw [if_pos (by omega)]; rfl
    | cons b t =>
     have : body.length - w ≠ 0 := by
      have := congrArg List.length hd
      rw [List.length_drop, List.length_cons] at this; omega
     rw [if_neg (by omega), Qr6 N body w b t hd hbn (by omega)]
     simp only [Option.bind_some, Vd, Qrj, Qtj]
     cases ho : ofB (b.toNat : Int) with
     | false => rw [if_pos (by rfl), if_pos (.inl rfl)]; rfl
     | true =>
      rw [if_neg (by simp)]
      by_cases hb0 : b.toNat = 0
      ·rw [if_pos (by omega), if_pos (.inr hb0)]; rfl
      ·rw [if_neg (by omega), if_neg (by simp [hb0])]
       have := hL b t hd ho
       rw [ho] at this; exact this
   have hR1 : ∀ t : List UInt8, t.length ≤ body.length → R1 t (((m + 1 : Nat) : Int) - 1) = some (Yz data t) := fun t ht => h1 t (by omega)
   have szb : Q0.szs ([] : List Q0) ≤ 0 + 1000 * w := by simp [Q0.szs]
   have szb1 : Q0.szs ([] : List Q0) ≤ 0 + 1000 * (w + 1) := by simp [Q0.szs]
   have kb : ∀ code : Int, ofB code = true → 0 ≤ (ofS code).Kind ∧ (ofS code).Kind ≤ 25 := fun code ho => by have := (Qez code ho).kind; omega
   have dl : ∀ (b : UInt8) (t : List UInt8), body.drop w = b :: t → body.drop (w + 1) = t ∧ w + 1 ≤ body.length := fun b t hd => by
    refine ⟨by rw [← List.drop_drop, hd]; rfl, ?_⟩
    have := congrArg List.length hd
    rw [List.length_drop, List.length_cons] at this; omega
   by_cases h23 : c.Kind = 23
   ·rw [if_pos h23]
    by_cases h9 : cnt % 2 ≠ 0
    ·rw [if_pos h9, if_pos ⟨h23, h9⟩]; rfl
    ·rw [if_neg h9, if_neg (show ¬ (c.Kind = 23 ∧ cnt % 2 ≠ 0) from fun h => h9 h.2), if_neg (by omega), if_neg (show ¬ c.Kind = 24 by omega)]
     have := Qa3 (R := R1) (N := N) (c := c) (v9 := (body, ⟨s, ((w + n : Nat) : Int), 0⟩)) (v11 := ((cnt : Int), ⟨body, (w : Int), 0⟩)) (rd := Yz data) (text := body) (cnt := cnt) (tot := w + n) hm' (by omega) (by omega) rfl rfl hN hR1 hgr N 0 w [] (by omega) (by omega) h7 rfl szb
     rw [Nat.sub_zero] at this
     exact this
   ·rw [if_neg h23, if_neg (show ¬ (c.Kind = 23 ∧ cnt % 2 ≠ 0) from fun h => h23 h.1)]
    by_cases h24 : c.Kind = 24
    ·rw [if_pos h24, if_pos h24]
     refine arr (fun v23 v25 => Zv R1 R2 N c ((m + 1 : Nat) : Int) (body, ⟨s, ((w + n : Nat) : Int), 0⟩) ((cnt : Int), ⟨body, (w : Int), 0⟩) v23 v25 N 0 v23.2.text v23.2.at' v23.2.err []) (fun b t hd ho => ?_)
     obtain ⟨d1, d2⟩ := dl b t hd
     have := Q9x (R := R1) (R2 := R2) (N := N) (c := c) (v9 := (body, ⟨s, ((w + n : Nat) : Int), 0⟩)) (v11 := ((cnt : Int), ⟨body, (w : Int), 0⟩)) (v23 := ((b.toNat : Int), ⟨body, ((w + 1 : Nat) : Int), 0⟩)) (v25 := (ofS (b.toNat : Int), ofB (b.toNat : Int))) (rd := data (b.toNat : Int)) (text := body) (cnt := cnt) (tot := w + n) (b := b) hm' (by omega) (by omega) rfl rfl rfl (kb _ ho) hN (fun t ht => h2 _ t (by omega)) (hg _) N 0 (w + 1) [] (by omega) (by omega) d2 rfl szb1
     rw [Nat.sub_zero, d1] at this
     exact this
    ·rw [if_neg h24, if_neg h24]
     have := Qar (R := R1) (N := N) (c := c) (v9 := (body, ⟨s, ((w + n : Nat) : Int), 0⟩)) (v11 := ((cnt : Int), ⟨body, (w : Int), 0⟩)) (rd := Yz data) (text := body) (cnt := cnt) (tot := w + n) hm' (by omega) (by omega) rfl rfl hN hR1 hgr N 0 w [] (by omega) (by omega) h7 rfl szb
     rw [Nat.sub_zero] at this
     exact this
  ·rw [if_neg h7]
   dsimp only
   rw [if_pos (show body.length < w by omega), if_pos (show (3 : Int) ≠ 0 by decide)]; rfl
 ·rw [if_neg hl]
  dsimp only
  rw [if_pos (show s.length < w by omega), if_pos (show (3 : Int) ≠ 0 by decide)]; rfl
theorem Quj {m N : Nat} {s : List UInt8} (hm : m ≤ 32) (hs : s.length ≤ 600000) (h : ∀ code t, t.length ≤ s.length → Wq N code t (m : Int) = some (U8 m code t)) : Yw (N + 1) s (m : Int) = some (Yz (U8 m) s) := by
 show J2 (Yw N) (Wq N) (V8 N) (Uh N) N s (m : Int) = _
 simp only [J2, Qd1, Qo1 m hm, Option.bind_some, Qb, Bool.not_true, Bool.false_eq_true, if_false]
 cases s with
 | nil => rfl
 | cons b t =>
  rw [if_neg (by simp [Q8a]), show idx (b :: t) 0 = some b from rfl]
  simp only [Option.bind_some]
  rw [if_pos (by simp [Nat.ble_eq]), List.take_length, Qrj]
  simp only [List.drop_succ_cons, List.drop_zero]
  rw [h _ t (by simp)]
  simp only [Option.bind_some, Vb, Yz]
  by_cases he : (U8 m (b.toNat : Int) t).2.2 = 0
  ·rw [if_neg (by simp [he]), if_neg (by simp [he])]
   obtain ⟨g1, g2, g3⟩ := Q22 m (b.toNat : Int) t (by simp at hs; omega) he
   rw [Z1 _ (by simp at hs; omega)]
  ·rw [if_pos he, if_pos he]; rfl
theorem Qv0 : ∀ m : Nat, m ≤ 32 → ∀ N : Nat, 700000100 + 4 * m < N → ∀ (code : Int) (s : List UInt8), s.length ≤ 600000 → Wq N code s (m : Int) = some (U8 m code s) := by
 intro m
 induction m with
 | zero =>
  intro hm N hN code s hs
  obtain ⟨N, rfl⟩ : ∃ K, N = K + 1 := ⟨N - 1, by omega⟩
  show Vn (Yw N) (Wq N) (V8 N) (Uh N) N code s ((0 : Nat) : Int) = _
  simp only [Vn, Qd1, Qo1 0 hm, Option.bind_some, Qb, Bool.not_true, Bool.false_eq_true, if_false, Vd, Vi, U8]
  cases h1 : ofB code with
  | false => rfl
  | true =>
   simp only [Bool.not_true, Bool.false_eq_true, if_false, Bool.true_eq_false]
   cases h2 : (ofS code).Items with
   | false =>
    simp only [Bool.not_false, if_true]
    rw [Qqq N code s (by unfold Qaw; omega) (by omega) (by omega)]; rfl
   | true => rfl
 | succ m ih =>
  intro hm N hN code s hs
  obtain ⟨N, rfl⟩ : ∃ K, N = K + 3 := ⟨N - 3, by omega⟩
  show Vn (Yw (N + 2)) (Wq (N + 2)) (V8 (N + 2)) (Uh (N + 2)) (N + 2) code s ((m + 1 : Nat) : Int) = _
  simp only [Vn, Qd1, Qo1 (m + 1) hm, Option.bind_some, Qb, Bool.not_true, Bool.false_eq_true, if_false, Vd, Vi, U8]
  cases h1 : ofB code with
  | false => rfl
  | true =>
   simp only [Bool.not_true, Bool.false_eq_true, if_false, Bool.true_eq_false]
   cases h2 : (ofS code).Items with
   | false =>
    simp only [Bool.not_false, if_true]
    rw [Qqq (N + 2) code s (by unfold Qaw; omega) (by omega) (by omega)]; rfl
   | true =>
    simp only [Bool.not_true, Bool.false_eq_true, if_false, Bool.true_eq_false]
    rw [if_neg (show ¬ (((m + 1 : Nat) : Int) = 0) by omega)]
    have hR : ∀ t : List UInt8, t.length ≤ 600000 → Yw (N + 1) t (((m + 1 : Nat) : Int) - 1) = some (Yz (U8 m) t) := fun t ht => by
     rw [show (((m + 1 : Nat) : Int) - 1) = (m : Int) by omega]
     exact Quj (by omega) ht (fun code u hu => ih (by omega) N (by omega) code u (by omega))
    have hD : ∀ (code : Int) (t : List UInt8), t.length ≤ 600000 → Wq (N + 1) code t (((m + 1 : Nat) : Int) - 1) = some (U8 m code t) := fun code t ht => by
     rw [show (((m + 1 : Nat) : Int) - 1) = (m : Int) by omega]
     exact ih (by omega) (N + 1) (by omega) code t ht
    by_cases h3 : (ofS code).Kind = 25
    ·rw [if_pos h3, if_pos h3]
     show (V0 (Yw (N + 1)) (Wq (N + 1)) (V8 (N + 1)) (Uh (N + 1)) (N + 1) s ((m + 1 : Nat) : Int)).bind _ = _
     simp only [V0]
     have := Qli (R := Yw (N + 1)) (N := N + 1) (most := ((m + 1 : Nat) : Int)) (rd := Yz (U8 m)) (text := s) (by omega) (by omega) (by omega) (fun t ht => hR t (by omega)) (Q2f (Q22 m)).1 (N + 1) 0 0 [] (by omega) (by omega) (by omega) rfl
     rw [show ((0 : Nat) : Int) = 0 from rfl] at this
     rw [this]; rfl
    ·rw [if_neg h3, if_neg h3]
     cases h4 : (ofS code).Sized with
     | false => rfl
     | true =>
      simp only [Bool.not_true, Bool.false_eq_true, if_false, Bool.true_eq_false]
      show (Vr (Yw (N + 1)) (Wq (N + 1)) (V8 (N + 1)) (Uh (N + 1)) (N + 1) (ofS code) s ((m + 1 : Nat) : Int)).bind _ = _
      rw [Qta (m := m) (c := ofS code) (by omega) hm hs ((Gr h1 h2).1 h4).1 (Q22 m) hR hD]; rfl
theorem Qtt (m N : Nat) (s : List UInt8) (hm : m ≤ 32) (hN : 700000200 + 4 * m < N) (hs : s.length ≤ 600000) : Yw N s (m : Int) = some (Yz (U8 m) s) := by
 obtain ⟨N, rfl⟩ : ∃ K, N = K + 1 := ⟨N - 1, by omega⟩
 exact Quj hm hs (fun code t ht => Qv0 m hm N (by omega) code t (by omega))
end
end Go.Av
namespace Go.Av
noncomputable section
open Go.Proofs
set_option maxRecDepth 100000
theorem Qnb (n m k : Nat) : n &&& (m * 2 ^ k) = ((n / 2 ^ k) &&& m) * 2 ^ k := by
 apply Nat.eq_of_testBit_eq
 intro i
 rw [Nat.testBit_and, Nat.testBit_mul_two_pow, Nat.testBit_mul_two_pow, Nat.testBit_and, Nat.testBit_div_two_pow]
 by_cases h : k ≤ i
 ·simp [h]
 ·simp [h]
theorem Qrz (n k : Nat) (h : k ≤ 64) : Q48 .u64 (n : Int) (k : Int) = ((n / 2 ^ k : Nat) : Int) := by
 have e : min (k : Int).toNat IntKind.u64.bits = k := by simp [IntKind.bits]; omega
 simp only [Q48, e]
 rw [Int.fdiv_eq_ediv_of_nonneg _ (by exact_mod_cast Nat.zero_le _)]
 push_cast; rfl
theorem Quq (n e k : Nat) (hn : n < 18446744073709551616) (hk : k ≤ 63) (he : (2 ^ e - 1) * 2 ^ k < 18446744073709551616) (he2 : 2 ^ e - 1 < 18446744073709551616) :
  (Q0w .u64 (Q48 .u64 (n : Int) (k : Int)) ((2 ^ e - 1 : Nat) : Int) = ((2 ^ e - 1 : Nat) : Int)) = (Q0w .u64 (n : Int) (((2 ^ e - 1) * 2 ^ k : Nat) : Int) = (((2 ^ e - 1) * 2 ^ k : Nat) : Int)) := by
 rw [Qrz n k (by omega), Q2t _ _ (Nat.lt_of_le_of_lt (Nat.div_le_self _ _) hn) he2, Q2t _ _ hn he, Qnb]
 apply propext
 have hp : 0 < 2 ^ k := Nat.two_pow_pos k
 constructor
 ·intro h
  have := Int.ofNat.inj h
  rw [this]
 ·intro h
  have := Nat.eq_of_mul_eq_mul_right hp (Int.ofNat.inj h)
  rw [this]
theorem Qum (n : Nat) (hn : n < 18446744073709551616) : (Q0w .u64 (n : Int) 8388607 ≠ 0) = (Q07 .u64 (n : Int) 41 ≠ 0) := by
 have e : Q07 .u64 (n : Int) 41 = ((n : Int) * 2199023255552) % 18446744073709551616 := by
  show IntKind.u64.wrap _ = _
  rw [Qfa]; rfl
 rw [show (8388607 : Int) = ((8388607 : Nat) : Int) from rfl, Q2t _ _ hn (by decide), e, show (8388607 : Nat) = 2 ^ 23 - 1 from rfl, Nat.and_two_pow_sub_one_eq_mod]
 apply propext; omega
theorem Qu6 (n : Nat) (hn : n < 18446744073709551616) : (Q0w .u64 (n : Int) 4503599627370495 ≠ 0) = (Q07 .u64 (n : Int) 12 ≠ 0) := by
 have e : Q07 .u64 (n : Int) 12 = ((n : Int) * 4096) % 18446744073709551616 := by
  show IntKind.u64.wrap _ = _
  rw [Qfa]; rfl
 rw [show (4503599627370495 : Int) = ((4503599627370495 : Nat) : Int) from rfl, Q2t _ _ hn (by decide), e, show (4503599627370495 : Nat) = 2 ^ 52 - 1 from rfl, Nat.and_two_pow_sub_one_eq_mod]
 apply propext; omega
theorem Qbi (N : Nat) (v : Q0) (h : okU v.N') : W7 N v = some (nnS v) := by
 rw [← Qsw 0 v]
 obtain ⟨h0, h1⟩ := h
 obtain ⟨n, hn⟩ := Int.eq_ofNat_of_zero_le h0
 rw [hn] at h1
 have h1 : n < 18446744073709551616 := by omega
 have e1 := Quq n 8 23 h1 (by decide) (by decide) (by decide)
 have e2 := Quq n 11 52 h1 (by decide) (by decide) (by decide)
 rw [show ((2 ^ 8 - 1 : Nat) : Int) = 255 from rfl, show (((2 ^ 8 - 1) * 2 ^ 23 : Nat) : Int) = 2139095040 from rfl, show ((23 : Nat) : Int) = 23 from rfl] at e1
 rw [show ((2 ^ 11 - 1 : Nat) : Int) = 2047 from rfl, show (((2 ^ 11 - 1) * 2 ^ 52 : Nat) : Int) = 9218868437227405312 from rfl, show ((52 : Nat) : Int) = 52 from rfl] at e2
 have l1 : Q5 .neq (Q0w .u64 (n : Int) 8388607) 0 = Q5 .neq (Q07 .u64 (n : Int) 41) 0 := by
  rw [Bool.eq_iff_iff, Vb, Vb, Qum n h1]
 have l2 : Q5 .neq (Q0w .u64 (n : Int) 4503599627370495) 0 = Q5 .neq (Q07 .u64 (n : Int) 12) 0 := by
  rw [Bool.eq_iff_iff, Vb, Vb, Qu6 n h1]
 unfold W7 Zf
 simp only [hn, l1, l2, Qb, Vi, e1, e2]
 by_cases k1 : v.Kind = 11
 ·have k2 : ¬ v.Kind = 12 := by omega
  simp only [if_pos k1, if_neg k2]
  split
  ·split
   ·rename_i h; rw [h]
   ·rename_i h
    cases hc : Q5 .neq (Q07 .u64 (n : Int) 41) 0 with
    | true => exact absurd hc h
    | false => rfl
  ·rfl
 ·simp only [if_neg k1]
theorem Q8x {R : Q0 → Q0 → Option Bool} {N : Nat} {a b : Q0} (hlen : a.Items.length = b.Items.length) (hb : a.Items.length < 4611686018427387904)
  (hR : ∀ y ∈ a.Items, ∀ z ∈ b.Items, R y z = some (Q1b y z)) : ∀ (n i : Nat), i ≤ a.Items.length → a.Items.length - i < n →
  Ys R N a b n (i : Int) = some (Q0v (a.Items.drop i) (b.Items.drop i)) ∧ Yo R N a b n (i : Int) = some (Q0v (a.Items.drop i) (b.Items.drop i))
 | 0, i, _, h => by omega
 | n + 1, i, h1, h2 => by
  simp only [Ys, Yo, Qb, W2, Z7]
  by_cases hi : i < a.Items.length
  ·rw [if_pos (by omega), if_pos (by omega), Xz, Xz, List.getElem?_eq_getElem hi, List.getElem?_eq_getElem (show i < b.Items.length by omega)]
   simp only [Option.bind_some, hR _ (List.getElem_mem hi) _ (List.getElem_mem (show i < b.Items.length by omega))]
   rw [Z1 _ (by omega)]
   obtain ⟨ih1, ih2⟩ := Q8x (N := N) hlen hb hR n (i + 1) (by omega) (by omega)
   rw [List.drop_eq_getElem_cons hi, List.drop_eq_getElem_cons (show i < b.Items.length by omega), Q0v]
   cases Q1b a.Items[i] b.Items[i] with
   | true =>
    simp only [Bool.not_true, Bool.false_eq_true, if_false, Bool.true_and]
    exact ⟨by exact_mod_cast ih1, by exact_mod_cast ih2⟩
   | false => simp
  ·rw [if_neg (by omega), if_neg (by omega), List.drop_of_length_le (by omega)]
   simp [Q0v]
theorem Qaf : ∀ (N : Nat) (a b : Q0), Fine a → Fine b → a.sz < N → a.sz < 1000000000 → Yt N a b = some (Q1b a b)
 | 0, a, b, _, _, h, _ => by have := a.sz_eq; omega
 | N + 1, a, b, fa, fb, h, h2 => by
  have hs := a.sz_eq
  have hl := Q0.szs_len a.Items
  rw [Q9e]
  simp only [Yt, Vv, Qb, Vb, Gv, Z7, Qbi N a fa.num, Qbi N b fb.num, Option.bind_some]
  by_cases e1 : a.Kind = b.Kind
  ·by_cases e3 : a.Text = b.Text
   ·by_cases e4 : a.Items.length = b.Items.length
    ·simp only [if_neg (show ¬ (a.Kind ≠ b.Kind) by simp [e1]), if_neg (show ¬ (a.Text ≠ b.Text) by simp [e3]), if_neg (show ¬ ((a.Items.length : Int) ≠ b.Items.length) by simp [e4])]
     obtain ⟨i1, i2⟩ := Q8x (N := N) (R := Yt N) e4 (by omega) (fun y hy z hz => Qaf N y z (fa.items y hy) (fb.items z hz) (by have := Q0.szs_mem _ y hy; omega) (by have := Q0.szs_mem _ y hy; omega)) N 0 (by omega) (by omega)
     rw [show ((0 : Nat) : Int) = 0 from rfl] at i1 i2
     rw [i1, i2, List.drop_zero, List.drop_zero]
     simp only [e1, e3, e4, decide_true, Bool.true_and]
     by_cases e2 : a.N' = b.N'
     ·simp [e2]
     ·simp only [e2, ne_eq, not_false_eq_true, if_true, decide_false, Bool.false_or]
      cases nnS a <;> cases nnS b <;> simp
    ·simp only [if_neg (show ¬ (a.Kind ≠ b.Kind) by simp [e1]), if_neg (show ¬ (a.Text ≠ b.Text) by simp [e3]), if_pos (show ((a.Items.length : Int) ≠ b.Items.length) by omega)]
     simp [e4]
     repeat' split
     all_goals rfl
   ·simp only [if_neg (show ¬ (a.Kind ≠ b.Kind) by simp [e1]), if_pos (show (a.Text ≠ b.Text) from e3)]
    simp [e3]
    repeat' split
    all_goals rfl
  ·rw [if_pos (by simpa using e1)]
   simp [e1]
end
end Go.Av
namespace Go.Av
noncomputable section
open Go.Proofs
set_option maxRecDepth 100000
open Classical in
theorem Qib {N : Nat} {v : Q0} (hf : Fine v) (hb : v.sz < 1000000000) (hN : v.sz < N) {k0 : Int → Option Bool} {i : Nat} (hi : i < v.Items.length) (i2 : i % 2 = 0) : ∀ (n k : Nat), i - k < n → k % 2 = 0 → k ≤ i →
  Yp N k0 v.Items (i : Int) n (k : Int) = if ∃ j, k ≤ j ∧ j < i ∧ j % 2 = 0 ∧ AL v i j then some true else k0 ((i + 2 : Nat) : Int)
 | 0, k, h, _, _ => by omega
 | n + 1, k, h, hk, hki => by
  have hs := v.sz_eq
  have hl := Q0.szs_len v.Items
  simp only [Yp, Qb, W2, Xz]
  by_cases hlt : k < i
  ·rw [if_pos (by omega), List.getElem?_eq_getElem hi, List.getElem?_eq_getElem (show k < v.Items.length by omega)]
   simp only [Option.bind_some]
   have hsz := Q0.szs_mem _ _ (List.getElem_mem hi)
   rw [Qaf N _ _ (hf.items _ (List.getElem_mem hi)) (hf.items _ (List.getElem_mem (show k < v.Items.length by omega))) (by omega) (by omega)]
   simp only [Option.bind_some]
   cases hal : Q1b v.Items[i] v.Items[k] with
   | true =>
    rw [if_pos rfl, if_pos ⟨k, Nat.le_refl _, hlt, hk, _, _, List.getElem?_eq_getElem hi, List.getElem?_eq_getElem (by omega), hal⟩]
   | false =>
    rw [if_neg (by simp), Z1 _ (by omega)]
    have := Qib (k0 := k0) hf hb hN hi i2 n (k + 2) (by omega) (by omega) (by omega)
    rw [show ((k : Int) + 2) = ((k + 2 : Nat) : Int) by push_cast; rfl, this]
    by_cases hx : ∃ j, k + 2 ≤ j ∧ j < i ∧ j % 2 = 0 ∧ AL v i j
    ·rw [if_pos hx]
     obtain ⟨j, j1, j2, j3, j4⟩ := hx
     rw [if_pos ⟨j, by omega, j2, j3, j4⟩]
    ·rw [if_neg hx, if_neg]
     rintro ⟨j, j1, j2, j3, j4⟩
     by_cases hjk : j = k
     ·subst hjk
      obtain ⟨x, y, x1, y1, z1⟩ := j4
      rw [List.getElem?_eq_getElem hi] at x1
      rw [List.getElem?_eq_getElem (by omega)] at y1
      cases x1; cases y1
      rw [hal] at z1; cases z1
     ·exact hx ⟨j, by omega, j2, j3, j4⟩
  ·rw [if_neg (by omega), Z1 _ (by omega), if_neg (by rintro ⟨j, j1, j2, _⟩; omega)]
   push_cast; rfl
open Classical in
theorem Qiu {N : Nat} {v : Q0} (hf : Fine v) (hb : v.sz < 1000000000) (hN : v.sz < N) : ∀ (n i : Nat), v.Items.length - i < n → i % 2 = 0 → i ≤ v.Items.length + 2 →
  Zj N v.Items n (i : Int) = some (if ∃ i' j, i ≤ i' ∧ i' % 2 = 0 ∧ i' < v.Items.length ∧ j < i' ∧ j % 2 = 0 ∧ AL v i' j then true else false)
 | 0, i, h, _, _ => by omega
 | n + 1, i, h, hi, hle => by
  have hs := v.sz_eq
  have hl := Q0.szs_len v.Items
  simp only [Zj, Qb, W2, Z7]
  by_cases hlt : i < v.Items.length
  ·rw [if_pos (by omega)]
   have h1 := Qib (N := N) (k0 := Zj N v.Items n) hf hb hN hlt hi N 0 (by omega) (by omega) (by omega)
   rw [show ((0 : Nat) : Int) = 0 from rfl] at h1
   rw [h1]
   by_cases hx : ∃ j, 0 ≤ j ∧ j < i ∧ j % 2 = 0 ∧ AL v i j
   ·rw [if_pos hx]
    obtain ⟨j, _, j2, j3, j4⟩ := hx
    rw [if_pos ⟨i, j, Nat.le_refl _, hi, hlt, j2, j3, j4⟩]
   ·rw [if_neg hx, Qiu hf hb hN n (i + 2) (by omega) (by omega) (by omega)]
    by_cases hy : ∃ i' j, i + 2 ≤ i' ∧ i' % 2 = 0 ∧ i' < v.Items.length ∧ j < i' ∧ j % 2 = 0 ∧ AL v i' j
    ·rw [if_pos hy]
     obtain ⟨i', j, a1, a2, a3⟩ := hy
     rw [if_pos ⟨i', j, by omega, a2, a3⟩]
    ·rw [if_neg hy, if_neg]
     rintro ⟨i', j, a1, a2, a3, a4, a5, a6⟩
     by_cases he : i' = i
     ·subst he; exact hx ⟨j, by omega, a4, a5, a6⟩
     ·exact hy ⟨i', j, by omega, a2, a3, a4, a5, a6⟩
  ·rw [if_neg (by omega), if_neg]
   rintro ⟨i', j, a1, a2, a3, _⟩; omega
theorem Qq8 (v : Q0) : Q1f v = 0 ∨ Q1f v = 16 := by
 unfold Q1f
 split
 ·exact .inl rfl
 ·split
  ·exact .inr rfl
  ·exact .inl rfl
open Classical in
theorem Qq5 (N : Nat) (v : Q0) (hf : Fine v) (hk : v.Kind = 23) (hb : v.sz < 1000000000) (hN : v.sz + 5 < N) : Wr N v.Items = some (decide (Q1f v = 16)) := by
 have hs := v.sz_eq
 have hl := Q0.szs_len v.Items
 have h0 := Qiu hf hb (show v.sz < N by omega) N 0 (by omega) (by omega) (by omega)
 rw [show ((0 : Nat) : Int) = 0 from rfl] at h0
 unfold Wr
 rw [h0]
 have hkey : Q1f v = 16 ↔ ∃ i j, 2 ≤ i ∧ i % 2 = 0 ∧ i < v.Items.length ∧ j < i ∧ j % 2 = 0 ∧ AL v i j := by
  unfold Q1f
  rw [if_neg (fun h => h hk)]
  split
  ·rename_i hx; exact ⟨fun _ => hx, fun _ => rfl⟩
  ·rename_i hx; exact ⟨fun h => (by cases h), fun h => absurd h hx⟩
 by_cases hx : ∃ i' j, 0 ≤ i' ∧ i' % 2 = 0 ∧ i' < v.Items.length ∧ j < i' ∧ j % 2 = 0 ∧ AL v i' j
 ·rw [if_pos hx]
  obtain ⟨i, j, a1, a2, a3, a4, a5, a6⟩ := hx
  rw [decide_eq_true (hkey.2 ⟨i, j, by omega, a2, a3, a4, a5, a6⟩)]
 ·rw [if_neg hx, decide_eq_false]
  rw [hkey]
  rintro ⟨i, j, a1, a2, a3, a4, a5, a6⟩
  exact hx ⟨i, j, by omega, a2, a3, a4, a5, a6⟩
theorem Qf0 (N : Nat) (v : Q0) : Wd N v = some (Gn v) := by
 rw [← Qjq v]
 unfold Wd Q7h
 simp only [Qb, Vi, Vb, Gv]
 by_cases h1 : v.Text ≠ []
 ·rw [if_pos h1, if_pos h1]
 rw [if_neg h1, if_neg h1]
 by_cases h2 : v.Kind = 24
 ·have e : Q5 .eql v.Kind 24 = true := by rw [Vi]; exact h2
  simp only [e, if_pos h2, Bool.not_true, Bool.false_eq_true, if_false]
 ·have e : Q5 .eql v.Kind 24 = false := Bool.eq_false_iff.2 (by rw [ne_eq, Vi]; exact h2)
  simp only [e, if_neg h2, Bool.not_false, if_true]
  split
  ·rfl
  ·split
   ·rfl
   ·by_cases h3 : v.Kind = 23
    ·rw [if_neg (by simp [h3]), if_pos h3]
    ·rw [if_pos h3, if_neg h3]
theorem Q7v {R : Q0 → Int → Option Int} {N : Nat} {v : Q0} {m : Int} (hf : Fine v) (hb : v.sz < 1000000000) (hN : v.sz + 5 < N) (hm : 1 ≤ m ∧ m ≤ 32) (hR : ∀ y ∈ v.Items, R y (m - 1) = some (U4 y (m - 1))) : ∀ (n i : Nat), i ≤ v.Items.length → v.Items.length - i < n →
  Y4 R N v m n (i : Int) = some (Q03 (v.Items.drop i) v.Kind v.N' (m - 1) (Q1f v))
 | 0, i, _, h => by omega
 | n + 1, i, hi, hn => by
  have hs := v.sz_eq
  have hl := Q0.szs_len v.Items
  simp only [Y4, Qb, W2, Vi, Vb, Z7, Xz, Z1 (m - 1) (show _ by omega)]
  by_cases h : i < v.Items.length
  ·rw [if_pos (by omega), List.getElem?_eq_getElem h, List.drop_eq_getElem_cons h, Q03]
   simp only [Option.bind_some, hR _ (List.getElem_mem h)]
   rw [Z1 _ (by omega)]
   have ih := Q7v (N := N) hf hb hN hm hR n (i + 1) (by omega) (by omega)
   rw [show ((i : Int) + 1) = ((i + 1 : Nat) : Int) by push_cast; rfl, ih]
   by_cases h24 : v.Kind = 24
   ·rw [if_pos h24]
    by_cases hw : IntKind.u64.wrap v.Items[i].Kind ≠ v.N'
    ·rw [if_pos hw, if_pos ⟨h24, hw⟩]
    ·rw [if_neg hw, if_neg (show ¬ (v.Kind = 24 ∧ IntKind.u64.wrap v.Items[i].Kind ≠ v.N') from fun hh => hw hh.2)]
     by_cases hc : U4 v.Items[i] (m - 1) ≠ 0
     ·rw [if_pos hc, if_pos hc]
     ·rw [if_neg hc, if_neg hc]
   ·rw [if_neg h24, if_neg (show ¬ (v.Kind = 24 ∧ IntKind.u64.wrap v.Items[i].Kind ≠ v.N') from fun hh => h24 hh.1)]
    by_cases hc : U4 v.Items[i] (m - 1) ≠ 0
    ·rw [if_pos hc, if_pos hc]
    ·rw [if_neg hc, if_neg hc]
  ·rw [if_neg (by omega), List.drop_of_length_le (by omega), Q03]
   by_cases h23 : v.Kind = 23
   ·rw [if_pos h23, Qq5 N v hf h23 hb hN]
    simp only [Option.bind_some]
    rcases Qq8 v with h | h
    ·rw [h]; rfl
    ·rw [h]; rfl
   ·rw [if_neg h23]
    unfold Q1f
    rw [if_pos h23]
theorem Q8d : ∀ (N : Nat) (v : Q0) (m : Int), Fine v → v.sz + 300050 < N → v.sz < 1000000000 → 0 ≤ m → m ≤ 32 → Yy N v m = some (U4 v m)
 | 0, v, m, _, h, _, _, _ => by omega
 | N + 1, v, m, hv, h, h2, m0, m1 => by
  have hs := v.sz_eq
  have hl := Q0.szs_len v.Items
  rw [Q6h]
  have ht := hv.text
  simp only [Yy, Vy, Qb, W2, Q2e, Q8l, Vi, Z7, Q5h N v hv.num (show v.Text.length < N by omega) (by omega), Qf0, Option.bind_some]
  split
  ·rfl
  rename_i h1
  by_cases h25 : v.Kind > 25
  ·rw [if_pos h25, if_pos (show 25 < v.Kind from h25)]
  rw [if_neg h25, if_neg (show ¬ 25 < v.Kind from h25)]
  split
  ·rfl
  by_cases hm0 : m = 0
  ·rw [if_pos hm0, if_pos hm0]
  rw [if_neg hm0, if_neg hm0]
  cases Gn v with
  | false => rfl
  | true =>
   simp only [Bool.not_true, Bool.false_eq_true, if_false, Bool.true_eq_false]
   by_cases hlen : 1000 < v.Items.length
   ·rw [if_pos (by omega), if_pos hlen]
   rw [if_neg (by omega), if_neg hlen]
   have := Q7v (R := Yy N) (N := N) (v := v) (m := m) hv h2 (by omega) ⟨by omega, m1⟩ (fun y hy => Q8d N y (m - 1) (hv.items y hy) (by have := Q0.szs_mem _ y hy; omega) (by have := Q0.szs_mem _ y hy; omega) (by omega) (by omega)) N 0 (by omega) (by omega)
   exact this
theorem Q4c (N : Nat) (v : Q0) (m : Int) (hv : Fine v) (h : v.sz + 300050 < N) (h2 : v.sz < 1000000000) : Yv N v m = some (J5 v m) := by
 simp only [Yv, Qb, W2, Q2e, J5]
 by_cases h1 : m < 0
 ·rw [if_pos h1, if_pos (show Q60 m = false from decide_eq_false (by omega))]
 by_cases h3 : m > 32
 ·rw [if_neg h1, if_pos h3, if_pos (show Q60 m = false from decide_eq_false (by omega))]
 rw [if_neg h1, if_neg h3, if_neg (show ¬ (Q60 m = false) by rw [show Q60 m = true from decide_eq_true (by omega)]; simp), Q8d N v m hv h h2 (by omega) (by omega)]; rfl
end
end Go.Av
namespace Go.Av
noncomputable section
open Go.Proofs
set_option maxRecDepth 100000
noncomputable def Qnp (d : Int → List UInt8 → Rd) (code : Int) (s : List UInt8) : Rd := if (ofS code).Kind = 25 then Qpl (Yz d) s else if (ofS code).Sized = false then (⟨(ofS code).Kind, 0, [], []⟩, 0, 0) else Q71 d (ofS code) s
theorem Qmv {code : Int} (h1 : ofB code = true) (h2 : (ofS code).Items = false) (m : Nat) (s : List UInt8) : U8 m code s = Qek code s := by
 cases m <;> simp only [U8, h1, h2, if_true, if_false, Bool.true_eq_false]
theorem Qc2 {code : Int} (h1 : ofB code = true) (h2 : (ofS code).Items = true) (m : Nat) (s : List UInt8) : U8 (m + 1) code s = Qnp (U8 m) code s := by
 simp only [U8, h1, h2, if_false, Bool.true_eq_false]; rfl
theorem Qbk : ∀ (l : List Q0) (k n m : Int), (∀ x ∈ l, U4 x m = 0 ∧ (k = 24 → IntKind.u64.wrap x.Kind = n)) → Q03 l k n m 0 = 0
 | [], _, _, _, _ => by rw [Q03]
 | x :: l, k, n, m, h => by
  obtain ⟨h1, h2⟩ := h x (by simp)
  rw [Q03, if_neg (fun hh => hh.2 (h2 hh.1)), if_neg (by simp [h1])]
  exact Qbk l k n m (fun y hy => h y (by simp [hy]))
theorem Qmu {k n : Int} {l : List Q0} (h24 : k = 24 → 1 ≤ n ∧ n ≤ 24) (h0 : k ≠ 24 → n = 0) (h25 : k = 25 → l.length = 2) (h23 : k = 23 → l.length % 2 = 0) : Gn ⟨k, n, [], l⟩ = true := by
 unfold Gn Q7h
 simp only [Qb, Gv, Vi, Vb, Q95, Z7]
 rw [if_neg (by simp)]
 by_cases e : k = 24
 ·rw [if_pos e, if_pos (h24 e).1]
  have := (h24 e).2
  simp [Q8l]; exact this
 ·rw [if_neg e, if_neg (by simp [h0 e])]
  by_cases e5 : k = 25
  ·rw [if_pos e5]
   simp [Vi, h25 e5]
  ·rw [if_neg e5]
   by_cases e3 : k = 23
   ·rw [if_pos e3]
    have := h23 e3
    simp [Vi, Int.tmod_eq_emod_of_nonneg]; omega
   ·rw [if_neg e3]; rfl
end
end Go.Av
namespace Go.Av
noncomputable section
open Go.Proofs
set_option maxRecDepth 100000
end
end Go.Av
namespace Go.Av
noncomputable section
open Go.Proofs
set_option maxRecDepth 100000
end
end Go.Av
namespace Go.Av
noncomputable section
open Go.Proofs
set_option maxRecDepth 100000
def Q53 (code : Int) (v : Q0) (b : List UInt8) : Bool :=
 if (ofS code).Items = false then Q23 code v else if (ofS code).Width = 0 then decide (v.Items.length = 0)
 else decide ((ofS code).Width = 4 ∨ (v.Items.length < 256 ∧ b.length + 1 < 256))
def Ja (code : Int) (v : Q0) (b : List UInt8) : List UInt8 :=
 if (ofS code).Items = false then (Qsm code v).1 else if (ofS code).Sized = false then []
 else Q1h (b.length + (ofS code).Width.toNat) (ofS code).Width.toNat ++ (Q1h v.Items.length (ofS code).Width.toNat ++ b)
def Qkn (c : Int) (l : List (Q0 × List UInt8)) : Bool := l.all fun p => Q53 c p.1 p.2
def Q3l (k : Int) (l : List (Q0 × List UInt8)) : Int := ((Uu k).find? (fun c => Qkn c l)).getD 0
def Q2h (c : Int) : UInt8 := UInt8.ofNat c.toNat
def Qwa (n : Int) (l : List (Q0 × List UInt8)) : List UInt8 := Q2h (Q3l n l) :: (l.map fun p => Ja (Q3l n l) p.1 p.2).flatten
def Qv2 (k n : Int) (is : List Q0) (l : List (List UInt8 × List UInt8)) : List UInt8 := if k = 24 then Qwa n (is.zip (l.map (·.1))) else if k = 25 then [] else (l.map (·.2)).flatten
def Qw4 (v : Q0) (b : List UInt8) (l : List (List UInt8 × List UInt8)) : List UInt8 := if v.Kind = 25 then 0 :: (l.map (·.2)).flatten else Q2h (Q3l v.Kind [(v, b)]) :: Ja (Q3l v.Kind [(v, b)]) v b
mutual
def Q0.enc : Q0 → List UInt8 × List UInt8
 | .mk k n t is => (Qv2 k n is (Q0.encs is), Qw4 ⟨k, n, t, is⟩ (Qv2 k n is (Q0.encs is)) (Q0.encs is))
def Q0.encs : List Q0 → List (List UInt8 × List UInt8)
 | [] => []
 | v :: l => v.enc :: Q0.encs l
end
def Q0.inn (v : Q0) : List UInt8 := v.enc.1
def Q0.byt (v : Q0) : List UInt8 := v.enc.2
theorem Qhn : ∀ l, Q0.encs l = l.map Q0.enc
 | [] => rfl
 | v :: l => by rw [Q0.encs, Qhn l]; rfl
def Q0.prs (v : Q0) : List (Q0 × List UInt8) := v.Items.map fun x => (x, x.inn)
def Q0.elm (v : Q0) : Int := Q3l v.N' v.prs
def Q0.cod (v : Q0) : Int := Q3l v.Kind [(v, v.inn)]
theorem Qsh (l : List Q0) : l.zip ((l.map Q0.enc).map (·.1)) = l.map fun x => (x, x.inn) := by
 induction l with
 | nil => rfl
 | cons x l ih => simp only [List.map_cons, List.zip_cons_cons, ih]; rfl
theorem Qi6 (v : Q0) : v.inn = if v.Kind = 24 then Q2h v.elm :: (v.Items.map fun x => Ja v.elm x x.inn).flatten else if v.Kind = 25 then [] else (v.Items.map Q0.byt).flatten := by
 obtain ⟨k, n, t, is⟩ := v
 unfold Q0.inn
 rw [Q0.enc, Qhn]
 simp only [Qv2, Qsh, Q0.elm, Q0.prs, Qwa]
 simp only [List.map_map]
 rfl
theorem Qey (v : Q0) : v.byt = if v.Kind = 25 then 0 :: (v.Items.map Q0.byt).flatten else Q2h v.cod :: Ja v.cod v v.inn := by
 obtain ⟨k, n, t, is⟩ := v
 unfold Q0.byt Q0.cod Q0.inn
 rw [Q0.enc, Qhn]
 simp only [Qw4, List.map_map]
 rfl
theorem Qj2 {k : Int} {l : List (Q0 × List UInt8)} (h : ∃ c ∈ Uu k, Qkn c l = true) : Q3l k l ∈ Uu k ∧ Qkn (Q3l k l) l = true := by
 unfold Q3l
 cases hf : (Uu k).find? (fun c => Qkn c l) with
 | some c => exact ⟨List.mem_of_find?_eq_some hf, by simpa using List.find?_some hf⟩
 | none =>
  obtain ⟨c, h1, h2⟩ := h
  have := List.find?_eq_none.1 hf c h1
  exact absurd h2 this
def Q0d (k : Int) : Int := (Uu k).getLastD 0
def Qn6 (k : Nat) : Bool := !(decide (1 ≤ k)) || ((Uu k).contains (Q0d k) && ((k == 25) || (if (ofS (Q0d k)).Items then decide ((ofS (Q0d k)).Width = 4) && (ofS (Q0d k)).Sized else if (ofS (Q0d k)).Sized then decide ((ofS (Q0d k)).Width = 4) else decide ((ofS (Q0d k)).Code ≠ 65) && (decide ((ofS (Q0d k)).Width = 0 ∧ (Us k).1 = 0 ∧ (Us k).2 = false) || (decide ((ofS (Q0d k)).Width = 1) && decide (8 = (Us k).1 ∨ (Us k).1 = 1 ∧ (Us k).2 = false)) || decide (1 < (ofS (Q0d k)).Width)))))
theorem Qm2 : ((List.range 26).all Qn6) = true := by decide +kernel
theorem Qae {k : Int} (h : 1 ≤ k ∧ k ≤ 25) : Qn6 k.toNat = true := List.all_eq_true.1 Qm2 k.toNat (by simp; omega)
theorem Qmp {v : Q0} (hn : okU v.N') (h : Ve v = 0) : Q0d v.Kind ∈ Uu v.Kind ∧ Q23 (Q0d v.Kind) v = true := by
 obtain ⟨c1, c2, c3, c4, c5, c6, c7⟩ := Gg h
 have hb := Qae (k := v.Kind) (by omega)
 unfold Qn6 at hb
 rw [show ((v.Kind.toNat : Nat) : Int) = v.Kind by omega] at hb
 simp only [Bool.or_eq_true, Bool.not_eq_true', decide_eq_false_iff_not, Bool.and_eq_true, List.contains_iff_mem, beq_iff_eq] at hb
 rcases hb with hb | ⟨hm, hb⟩
 ·omega
 ·refine ⟨hm, ?_⟩
  obtain ⟨d1, d2, d3⟩ := Q7e _ _ hm
  have hw := Qez _ d1
  have hi := Jo hw (by omega)
  rcases hb with hb | hb
  ·omega
  rw [hi] at hb
  simp only [Bool.false_eq_true, if_false] at hb
  have hs : Q4u (ofS (Q0d v.Kind)) v = true := by
   unfold Q4u
   by_cases hz : (ofS (Q0d v.Kind)).Sized = true
   ·rw [if_pos hz] at hb
    have h4 : (ofS (Q0d v.Kind)).Width = 4 := by simpa using hb
    obtain ⟨_, _, _, h65⟩ := hw.sized hi hz
    rw [if_neg h65, if_pos hz]
    simp [h4]
   ·rw [if_neg hz] at hb
    simp only [Bool.and_eq_true, Bool.or_eq_true, decide_eq_true_eq] at hb
    obtain ⟨h65, hb⟩ := hb
    rw [if_neg h65, if_neg hz]
    have hnum := c3
    unfold Q57 at hnum
    simp only [Bool.and_eq_true] at hnum
    have hf := hnum.1
    rcases hb with (⟨w0, b0, b1⟩ | ⟨w1, hb⟩) | w2
    ·rw [if_pos w0]
     rw [b0, b1] at hf
     unfold Jy at hf
     simp at hf ⊢
     have := hn.1
     omega
    ·rw [if_neg (by omega), if_pos w1, d3]
     rcases hb with hb | ⟨b1, b2⟩
     ·rw [← hb] at hf; exact hf
     ·rw [b1, b2] at hf
      rw [b2]
      unfold Jy at hf ⊢
      simp at hf ⊢
      omega
    ·rw [if_neg (by omega), if_neg (by omega)]
  unfold Q23
  simp [d1, d3, h, hs]
end
end Go.Av
namespace Go.Av
noncomputable section
open Go.Proofs
set_option maxRecDepth 100000
theorem Q97 : ∀ (l : List Q0) (k n m e : Int), Q03 l k n m e = 0 → e = 0 ∧ ∀ x ∈ l, U4 x m = 0 ∧ (k = 24 → IntKind.u64.wrap x.Kind = n)
 | [], _, _, _, _, h => ⟨by simpa [Q03] using h, fun x hx => by cases hx⟩
 | x :: l, k, n, m, e, h => by
  rw [Q03] at h
  split at h
  ·cases h
  ·rename_i h1
   split at h
   ·rename_i h2; exact absurd h h2
   ·rename_i h2
    obtain ⟨i1, i2⟩ := Q97 l k n m e h
    refine ⟨i1, fun y hy => ?_⟩
    rcases List.mem_cons.1 hy with rfl | hy
    ·exact ⟨Classical.byContradiction h2, fun hk => Classical.byContradiction fun hn => h1 ⟨hk, hn⟩⟩
    ·exact i2 y hy
theorem Q0j {v : Q0} (h : Gn v = true) : v.Text = [] ∧ (v.Kind = 24 → 1 ≤ v.N' ∧ v.N' ≤ 24) ∧ (v.Kind ≠ 24 → v.N' = 0) ∧ (v.Kind = 25 → v.Items.length = 2) ∧ (v.Kind = 23 → v.Items.length % 2 = 0) := by
 unfold Gn Q7h at h
 simp only [Qb, Gv, Vi, Vb, Q95, Z7] at h
 split at h
 ·cases h
 ·rename_i h1
  have h1 : v.Text = [] := by simpa using h1
  refine ⟨h1, ?_⟩
  split at h
  ·rename_i h2
   split at h
   ·rename_i h3
    have h4 : v.N' ≤ 24 := by
     have : Q5 .leq v.N' 24 = true := by simpa using h
     rw [Q8l] at this; exact this
    exact ⟨fun _ => ⟨h3, h4⟩, fun h => absurd h2 h, fun h => by omega, fun h => by omega⟩
   ·cases h
  ·rename_i h2
   split at h
   ·cases h
   ·rename_i h3
    have h3 : v.N' = 0 := by simpa using h3
    refine ⟨fun h => absurd h h2, fun _ => h3, ?_, ?_⟩
    ·intro h5
     rw [if_pos h5] at h
     have : Q5 .eql (v.Items.length : Int) 2 = true := by simpa using h
     rw [Vi] at this; omega
    ·intro h5
     rw [if_neg (by omega), if_pos h5] at h
     have : Q5 .eql ((v.Items.length : Int).tmod 2) 0 = true := by simpa using h
     rw [Vi, Int.tmod_eq_emod_of_nonneg (by omega)] at this; omega
theorem Ga {v : Q0} {m : Int} (h : U4 v m = 0) : (1 ≤ v.Kind ∧ v.Kind ≤ 21 ∧ Ve v = 0) ∨
  (22 ≤ v.Kind ∧ v.Kind ≤ 25 ∧ m ≠ 0 ∧ Gn v = true ∧ v.Items.length ≤ 1000 ∧ Q1f v = 0 ∧ ∀ x ∈ v.Items, U4 x (m - 1) = 0 ∧ (v.Kind = 24 → IntKind.u64.wrap x.Kind = v.N')) := by
 rw [Q6h] at h
 split at h
 ·cases h
 ·split at h
  ·cases h
  ·split at h
   ·exact .inl ⟨by omega, by omega, h⟩
   ·split at h
    ·cases h
    ·split at h
     ·cases h
     ·rename_i hs
      split at h
      ·cases h
      ·obtain ⟨h1, h2⟩ := Q97 _ _ _ _ _ h
       exact .inr ⟨by omega, by omega, by assumption, by simpa using hs, by omega, h1, h2⟩
theorem Qkk {v : Q0} {m : Int} (h : U4 v m = 0) : 1 ≤ v.Kind ∧ v.Kind ≤ 25 := by
 rcases Ga h with ⟨h1, h2, _⟩ | ⟨h1, h2, _⟩ <;> omega
theorem Qff {v : Q0} {m : Int} (h : U4 v m = 0) : IntKind.u64.wrap v.Kind = v.Kind := by
 have := Qkk h
 rw [Qfa]; omega
theorem Qjy {k : Int} (h : 22 ≤ k ∧ k ≤ 24) : Q0d k ∈ Uu k ∧ (ofS (Q0d k)).Items = true ∧ (ofS (Q0d k)).Width = 4 := by
 have hb := Qae (k := k) (by omega)
 unfold Qn6 at hb
 rw [show ((k.toNat : Nat) : Int) = k by omega] at hb
 simp only [Bool.or_eq_true, Bool.not_eq_true', decide_eq_false_iff_not, Bool.and_eq_true, List.contains_iff_mem, beq_iff_eq] at hb
 rcases hb with hb | ⟨hm, hb⟩
 ·omega
 ·obtain ⟨d1, d2, d3⟩ := Q7e _ _ hm
  have hi : (ofS (Q0d k)).Items = true := by rw [(Qez _ d1).items, d3]; simp; omega
  rcases hb with hb | hb
  ·omega
  ·rw [if_pos hi] at hb
   simp only [Bool.and_eq_true, decide_eq_true_eq] at hb
   exact ⟨hm, hi, hb.1⟩
theorem Qft {v : Q0} {m : Int} (hf : Fine v) (h : U4 v m = 0) (hk : v.Kind ≠ 25) (b : List UInt8) : Q0d v.Kind ∈ Uu v.Kind ∧ Q53 (Q0d v.Kind) v b = true := by
 rcases Ga h with ⟨h1, h2, h3⟩ | ⟨h1, h2, _⟩
 ·obtain ⟨g1, g2⟩ := Qmp hf.num h3
  obtain ⟨f1, f2, _⟩ := Q2v g2
  refine ⟨g1, ?_⟩
  unfold Q53
  rw [if_pos (Jo (Qez _ f1) (by omega))]; exact g2
 ·obtain ⟨g1, g2, g3⟩ := Qjy (k := v.Kind) (by omega)
  refine ⟨g1, ?_⟩
  unfold Q53
  rw [if_neg (by simp [g2]), if_neg (by omega)]
  simp [g3]
theorem Qqp {v : Q0} {m : Int} (hf : Fine v) (h : U4 v m = 0) (hk : v.Kind = 24) : v.elm ∈ Uu v.N' ∧ ∀ x ∈ v.Items, Q53 v.elm x x.inn = true := by
 rcases Ga h with ⟨h1, h2, h3⟩ | ⟨h1, h2, h3, h4, h5, h6, h7⟩
 ·omega
 obtain ⟨s1, s2, s3, s4, s5⟩ := Q0j h4
 have hn := s2 hk
 have hkx : ∀ x ∈ v.Items, x.Kind = v.N' := fun x hx => by
  have := (h7 x hx).2 hk
  rw [Qff (h7 x hx).1] at this; exact this
 have hlast : Q0d v.N' ∈ Uu v.N' := by
  have hb := Qae (k := v.N') (by omega)
  unfold Qn6 at hb
  rw [show ((v.N'.toNat : Nat) : Int) = v.N' by omega] at hb
  simp only [Bool.or_eq_true, Bool.not_eq_true', decide_eq_false_iff_not, Bool.and_eq_true, List.contains_iff_mem] at hb
  rcases hb with hb | ⟨hm, _⟩
  ·omega
  ·exact hm
 obtain ⟨g1, g2⟩ := Qj2 (k := v.N') (l := v.prs) ⟨Q0d v.N', hlast, by
  unfold Qkn Q0.prs
  rw [List.all_map, List.all_eq_true]
  intro x hx
  have hkk := hkx x hx
  have := (Qft (hf.items x hx) (h7 x hx).1 (by omega) x.inn).2
  rw [hkk] at this
  exact this⟩
 refine ⟨g1, fun x hx => ?_⟩
 have := List.all_eq_true.1 g2 (x, x.inn) (by unfold Q0.prs; exact List.mem_map.2 ⟨x, hx, rfl⟩)
 exact this
theorem Qqd {v : Q0} {m : Int} (hf : Fine v) (h : U4 v m = 0) (hk : v.Kind ≠ 25) : v.cod ∈ Uu v.Kind ∧ Q53 v.cod v v.inn = true := by
 obtain ⟨l1, l2⟩ := Qft hf h hk v.inn
 obtain ⟨g1, g2⟩ := Qj2 (k := v.Kind) (l := [(v, v.inn)]) ⟨Q0d v.Kind, l1, by simp [Qkn, l2]⟩
 exact ⟨g1, by unfold Q0.cod; simpa [Qkn] using g2⟩
mutual
def Q0.wgt : Q0 → Nat
 | .mk _ _ t is => t.length + 30 + Q0.wgts is
def Q0.wgts : List Q0 → Nat
 | [] => 0
 | v :: l => v.wgt + Q0.wgts l
end
theorem Q0.wgt_eq (v : Q0) : v.wgt = v.Text.length + 30 + Q0.wgts v.Items := by cases v; simp only [Q0.wgt]
theorem Q62 : ∀ (l : List Q0), ∀ x ∈ l, x.wgt ≤ Q0.wgts l
 | v :: l, x, hx => by
  simp only [Q0.wgts]
  rcases List.mem_cons.1 hx with rfl | hx
  ·omega
  ·have := Q62 l x hx; omega
theorem Qj1 (code : Int) : 0 ≤ (ofS code).Width ∧ (ofS code).Width.toNat ≤ 16 := by
 cases h : ofB code with
 | false => rw [Qcn code h]; decide
 | true =>
  have hw := Qez code h
  cases hi : (ofS code).Items with
  | false =>
   cases hw.shape hi with
   | sized w hs hw' h12 hk2 hc => rw [hw']; omega
   | wide hs hw' hk2 hc => rw [hw']; decide
   | num w hs hw' hh ht hc hbb => rw [hw']; omega
  | true =>
   obtain ⟨h1, h2⟩ := Gr h hi
   cases hs : (ofS code).Sized with
   | true => have := (h1 hs).1; omega
   | false =>
    have : (ofS code).Width = 0 := (Qld (P := fun t => t.2.2.2.2 = true → t.2.2.2.1 = false → t.2.2.1 = 0) (B := fun k => !(Vk k).2.2.2.2 || ((Vk k).2.2.2.1 || decide ((Vk k).2.2.1 = 0))) (by decide +kernel) (fun k hk h1 h2 => by simpa [h1, h2] using hk) h) hi hs
    omega
theorem Qt0 (code : Int) (v : Q0) : (Qsm code v).1.length ≤ v.Text.length + 16 := by
 unfold Qsm
 split
 ·simp
 ·split
  ·simp
  ·rename_i hf
   have hf : Q23 code v = true := by simpa using hf
   have := Q6k hf
   have := Qj1 code
   simp only []
   split at * <;> omega
theorem Qky (code : Int) (v : Q0) (b : List UInt8) : (Ja code v b).length ≤ v.Text.length + 16 + b.length := by
 unfold Ja
 split
 ·have := Qt0 code v; omega
 ·rename_i hi
  have hi : (ofS code).Items = true := by simpa using hi
  split
  ·simp
  ·rename_i hs
   have hs : (ofS code).Sized = true := by simpa using hs
   have hw : (ofS code).Width.toNat ≤ 4 := by
    cases h : ofB code with
    | false => rw [Qcn code h]; decide
    | true => have := (Gr h hi).1 hs; omega
   simp [Xy]; omega
theorem Q1i (v : Q0) : v.inn.length ≤ 1 + Q0.wgts v.Items ∧ v.byt.length ≤ v.wgt ∧ ∀ c, (Ja c v v.inn).length + 1 ≤ v.wgt := by
 induction v using Q0.ind with
 | h v ih =>
  have s1 : ∀ (l : List Q0), (∀ x ∈ l, x.byt.length ≤ x.wgt) → (l.map Q0.byt).flatten.length ≤ Q0.wgts l := by
   intro l
   induction l with
   | nil => intro _; simp
   | cons x l ihl =>
    intro h
    have h1 := h x (.head _)
    have h2 := ihl (fun y hy => h y (.tail _ hy))
    simp only [List.map_cons, List.flatten_cons, List.length_append, Q0.wgts]; omega
  have s2 : ∀ (c : Int) (l : List Q0), (∀ x ∈ l, ∀ c, (Ja c x x.inn).length + 1 ≤ x.wgt) → (l.map fun x => Ja c x x.inn).flatten.length ≤ Q0.wgts l := by
   intro c l
   induction l with
   | nil => intro _; simp
   | cons x l ihl =>
    intro h
    have h1 := h x (.head _) c
    have h2 := ihl (fun y hy => h y (.tail _ hy))
    simp only [List.map_cons, List.flatten_cons, List.length_append, Q0.wgts]; omega
  have hin : v.inn.length ≤ 1 + Q0.wgts v.Items := by
   rw [Qi6]
   split
   ·have := s2 v.elm v.Items (fun x hx => (ih x hx).2.2)
    simp only [List.length_cons]; omega
   ·split
    ·simp
    ·have := s1 v.Items (fun x hx => (ih x hx).2.1)
     omega
  have hd : ∀ c, (Ja c v v.inn).length + 1 ≤ v.wgt := fun c => by
   have := Qky c v v.inn
   rw [v.wgt_eq]; omega
  refine ⟨hin, ?_, hd⟩
  rw [Qey]
  split
  ·have := s1 v.Items (fun x hx => (ih x hx).2.1)
   rw [v.wgt_eq]; simp only [List.length_cons]; omega
  ·have := hd v.cod
   simp only [List.length_cons]; omega
end
end Go.Av
namespace Go.Av
noncomputable section
open Go.Proofs
set_option maxRecDepth 100000
theorem Q6r {rd : List UInt8 → Rd} {e : Q0 → List UInt8} : ∀ (l acc : List Q0) (rest : List UInt8), (∀ x ∈ l, ∀ t, rd (e x ++ t) = (x, ((e x).length : Int), 0)) → Ut rd l.length ((l.map e).flatten ++ rest) acc = ((acc ++ l, rest), 0)
 | [], acc, rest, _ => by simp [Ut]
 | x :: l, acc, rest, h => by
  have h1 := h x (.head _) ((l.map e).flatten ++ rest)
  rw [List.length_cons, Ut, List.map_cons, List.flatten_cons, List.append_assoc, h1]
  simp only [ne_eq, not_true_eq_false, if_false, Int.toNat_natCast, List.drop_left]
  rw [Q6r l (acc ++ [x]) rest (fun y hy => h y (.tail _ hy))]
  simp
theorem Q40 {c : Int} (h : 0 ≤ c ∧ c < 256) : ((Q2h c).toNat : Int) = c := by
 unfold Q2h
 rw [UInt8.toNat_ofNat']
 omega
theorem of0 : ofB 0 = true ∧ (ofS 0).Kind = 25 ∧ (ofS 0).Items = true := by decide +kernel
theorem Quk {code : Int} (h : ofB code = true) (hi : (ofS code).Items = true) (hs : (ofS code).Sized = false) : (ofS code).Width = 0 :=
 (Qld (P := fun t => t.2.2.2.2 = true → t.2.2.2.1 = false → t.2.2.1 = 0) (B := fun k => !(Vk k).2.2.2.2 || ((Vk k).2.2.2.1 || decide ((Vk k).2.2.1 = 0))) (by decide +kernel) (fun k hk h1 h2 => by simpa [h1, h2] using hk) h) hi hs
theorem Qil {k num : Int} {l : List Q0} {tot : Nat} (hk : Q1f ⟨k, num, [], l⟩ = 0) : Qe9 k num ((l, []), 0) tot = (⟨k, num, [], l⟩, (tot : Int), 0) := by
 unfold Qe9
 rw [if_neg (by simp), if_neg (by simp), if_neg (by simp [hk])]
theorem Qmb {n w : Nat} (s : List UInt8) (h : n < 256 ^ w) : J6 ((Q1h n w ++ s).take w) = n := by
 rw [List.take_left' (Xy w n), Q2z, Nat.mod_eq_of_lt h]
theorem Qjn {d : Int → List UInt8 → Rd} {c : Qm} {v : Q0} {w : Nat} (hw : c.Width = (w : Int)) (hk : c.Kind = v.Kind) (hs : c.Sized = true) (hn : v.Items.length < 256 ^ w) (hl : v.inn.length + w < 256 ^ w) (hn2 : v.Items.length ≤ 1000)
  (h23 : v.Kind = 23 → v.Items.length % 2 = 0) (hkeys : Q1f v = 0) (ht : v.Text = []) (hnum : v.Kind ≠ 24 → v.N' = 0)
  (h24 : v.Kind = 24 → ofB v.elm = true ∧ v.elm ≠ 0 ∧ (ofS v.elm).Kind = v.N' ∧ ∀ x ∈ v.Items, ∀ t, d v.elm (Ja v.elm x x.inn ++ t) = (x, ((Ja v.elm x x.inn).length : Int), 0))
  (hot : v.Kind ≠ 24 → v.Kind ≠ 25 ∧ ∀ x ∈ v.Items, ∀ t, Yz d (x.byt ++ t) = (x, (x.byt.length : Int), 0)) (s : List UInt8) :
  Q71 d c (Q1h (v.inn.length + w) w ++ (Q1h v.Items.length w ++ v.inn) ++ s) = (v, ((Q1h (v.inn.length + w) w ++ (Q1h v.Items.length w ++ v.inn)).length : Int), 0) := by
 have hwn : c.Width.toNat = w := by rw [hw]; rfl
 have e0 : (Q1h (v.inn.length + w) w ++ (Q1h v.Items.length w ++ v.inn) ++ s) = Q1h (v.inn.length + w) w ++ ((Q1h v.Items.length w ++ v.inn) ++ s) := by rw [List.append_assoc]
 have hlen : (Q1h (v.inn.length + w) w ++ ((Q1h v.Items.length w ++ v.inn) ++ s)).length = w + (w + v.inn.length + s.length) := by simp [Xy]; omega
 unfold Q71
 rw [hwn, e0, Qmb _ hl, if_neg (by rw [hlen]; omega), if_neg (by rw [hlen]; omega), List.drop_left' (Xy w _),
  List.take_left' (show (Q1h v.Items.length w ++ v.inn).length = v.inn.length + w by simp [Xy]; omega)]
 unfold Qpc
 rw [if_neg (by simp [Xy]), Qmb _ hn, if_neg (by omega), if_neg (by rw [hk]; intro h; exact h.2 (h23 h.1)), List.drop_left' (Xy w _)]
 have hv : ∀ num, num = v.N' → (⟨c.Kind, num, [], v.Items⟩ : Q0) = v := fun num h => by
  apply Q0.ext' <;> simp [hk, ht, h]
 have htot : ((w + (v.inn.length + w) : Nat) : Int) = ((Q1h (v.inn.length + w) w ++ (Q1h v.Items.length w ++ v.inn)).length : Int) := by simp [Xy]; omega
 by_cases h4 : v.Kind = 24
 ·obtain ⟨g1, g2, g3, g4⟩ := h24 h4
  have hr := Q4f g1
  rw [if_pos (by omega)]
  have hin := Qi6 v
  rw [if_pos h4] at hin
  rw [hin]
  simp only [Qtj]
  rw [← hin, Q40 hr, if_neg (by
   rintro (h | h)
   ·rw [g1] at h; cases h
   ·have := Q40 hr; omega)]
  have := Q6r (rd := d v.elm) (e := fun x => Ja v.elm x x.inn) v.Items [] [] g4
  rw [List.append_nil, List.nil_append] at this
  rw [this, Qil (by rw [hv _ g3]; exact hkeys), hv _ g3, htot]
 ·obtain ⟨g1, g2⟩ := hot h4
  rw [if_neg (by omega)]
  have hin := Qi6 v
  rw [if_neg h4, if_neg g1] at hin
  have := Q6r (rd := Yz d) (e := Q0.byt) v.Items [] [] g2
  rw [List.append_nil, List.nil_append, ← hin] at this
  rw [this, Qil (by rw [hv 0 (hnum h4).symm]; exact hkeys), hv 0 (hnum h4).symm, htot]
theorem Qne {v x : Q0} (hx : x ∈ v.Items) : x.wgt ≤ v.wgt := by
 have := Q62 _ x hx
 rw [v.wgt_eq]; omega
theorem Qoz (v : Q0) : ∀ m : Nat, Fine v → U4 v m = 0 → v.wgt < 4000000000 →
  (∀ c, ofB c = true → (ofS c).Kind = v.Kind → v.Kind ≠ 25 → Q53 c v v.inn = true → ∀ s, U8 m c (Ja c v v.inn ++ s) = (v, ((Ja c v v.inn).length : Int), 0)) ∧
  ∀ s, Yz (U8 m) (v.byt ++ s) = (v, (v.byt.length : Int), 0) := by
 induction v using Q0.ind with
 | h v ih =>
  intro m hf hc hw
  have hP : ∀ c, ofB c = true → (ofS c).Kind = v.Kind → v.Kind ≠ 25 → Q53 c v v.inn = true → ∀ s, U8 m c (Ja c v v.inn ++ s) = (v, ((Ja c v v.inn).length : Int), 0) := by
   intro c c1 c2 c3 c4 s
   rcases Ga hc with ⟨k1, k2, k3⟩ | ⟨k1, k2, k3, k4, k5, k6, k7⟩
   ·have hi := Jo (Qez c c1) (by omega)
    unfold Q53 at c4
    rw [if_pos hi] at c4
    have hd : Ja c v v.inn = Gw (ofS c) v := by unfold Ja; rw [if_pos hi, Qtb c4]
    rw [hd, Qmv c1 hi]
    exact Qt6 hf.num c4 s
   ·obtain ⟨m', rfl⟩ : ∃ m', m = m' + 1 := ⟨m - 1, by omega⟩
    have hi : (ofS c).Items = true := by rw [(Qez c c1).items, c2]; simp; omega
    obtain ⟨s1, s2, s3, s4, s5⟩ := Q0j k4
    have hit : ∀ x ∈ v.Items, U4 x ((m' : Nat) : Int) = 0 := fun x hx => by
     have := (k7 x hx).1
     rwa [show (((m' + 1 : Nat) : Int) - 1) = (m' : Int) by omega] at this
    rw [Qc2 c1 hi, Qnp, if_neg (by omega)]
    unfold Q53 at c4
    rw [if_neg (by simp [hi])] at c4
    obtain ⟨q1, q2⟩ := Gr c1 hi
    have hlen := (Q1i v).1
    rw [v.wgt_eq] at hw
    by_cases hs : (ofS c).Sized = true
    ·rw [if_neg (by simp [hs])]
     have hd : Ja c v v.inn = Q1h (v.inn.length + (ofS c).Width.toNat) (ofS c).Width.toNat ++ (Q1h v.Items.length (ofS c).Width.toNat ++ v.inn) := by
      unfold Ja
      rw [if_neg (by simp [hi]), if_neg (by simp [hs])]
     rw [hd]
     obtain ⟨w1, w2⟩ := q1 hs
     have c5 : (ofS c).Width = 4 ∨ (v.Items.length < 256 ∧ v.inn.length + 1 < 256) := by
      rw [if_neg (by omega)] at c4
      simpa using c4
     refine Qjn (w := (ofS c).Width.toNat) (by have := Qj1 c; omega) c2 hs ?_ ?_ k5 s5 k6 s1 s3 (fun h4 => ?_) (fun h4 => ⟨c3, fun x hx t => (ih x hx m' (hf.items x hx) (hit x hx) (by have := Q62 _ x hx; omega)).2 t⟩) s
     ·rcases w1 with w1 | w1
      ·rw [w1] at c5 ⊢; show v.Items.length < 256 ^ 1; omega
      ·rw [w1]; show v.Items.length < 256 ^ 4; omega
     ·rcases w1 with w1 | w1
      ·rw [w1] at c5 ⊢; show v.inn.length + 1 < 256 ^ 1; omega
      ·rw [w1]; show v.inn.length + 4 < 256 ^ 4; omega
     ·obtain ⟨e1, e2⟩ := Qqp hf hc h4
      obtain ⟨d1, d2, d3⟩ := Q7e _ _ e1
      have hnn := s2 h4
      refine ⟨d1, fun h0 => ?_, d3, fun x hx t => ?_⟩
      ·rw [h0] at d3
       have := of0.2.1
       omega
      ·have hkx : x.Kind = v.N' := by
        have := (k7 x hx).2 h4
        rwa [Qff (k7 x hx).1] at this
       exact (ih x hx m' (hf.items x hx) (hit x hx) (by have := Q62 _ x hx; omega)).1 v.elm d1 (by rw [d3, hkx]) (by omega) (e2 x hx) t
    ·have hs : (ofS c).Sized = false := by simpa using hs
     rw [if_pos hs]
     have hw0 := Quk c1 hi hs
     rw [if_pos hw0] at c4
     have hl0 : v.Items = [] := List.length_eq_zero_iff.1 (by simpa using c4)
     have hk := q2 hs
     have hd : Ja c v v.inn = [] := by
      unfold Ja
      rw [if_neg (by simp [hi]), if_pos hs]
     rw [hd]
     have hve : (⟨(ofS c).Kind, 0, [], []⟩ : Q0) = v := by
      apply Q0.ext' <;> simp [c2, s1, hl0]
      exact (s3 (by omega)).symm
     rw [hve]; rfl
  refine ⟨hP, fun s => ?_⟩
  by_cases h5 : v.Kind = 25
  ·rcases Ga hc with ⟨k1, k2, k3⟩ | ⟨k1, k2, k3, k4, k5, k6, k7⟩
   ·omega
   obtain ⟨m', rfl⟩ : ∃ m', m = m' + 1 := ⟨m - 1, by omega⟩
   obtain ⟨s1, s2, s3, s4, s5⟩ := Q0j k4
   rw [Qey, if_pos h5, List.cons_append, Yz]
   obtain ⟨o1, o2, o3⟩ := of0
   have hz : (((0 : UInt8).toNat : Nat) : Int) = 0 := rfl
   rw [hz, Qc2 o1 o3, Qnp, if_pos o2]
   have hr := Q6r (rd := Yz (U8 m')) (e := Q0.byt) v.Items [] s (fun x hx t => (ih x hx m' (hf.items x hx) (by
    have := (k7 x hx).1
    rwa [show (((m' + 1 : Nat) : Int) - 1) = (m' : Int) by omega] at this) (by have := Qne hx; omega)).2 t)
   rw [s4 h5, List.nil_append] at hr
   have hv : (⟨25, 0, [], v.Items⟩ : Q0) = v := by
    apply Q0.ext' <;> simp [h5, s1]
    exact (s3 (by omega)).symm
   unfold Qpl
   rw [hr, if_neg (by simp), hv, if_neg (by simp)]
   simp only [Prod.mk.injEq, true_and, and_true]
   simp
  ·obtain ⟨g1, g2⟩ := Qqd hf hc h5
   obtain ⟨d1, d2, d3⟩ := Q7e _ _ g1
   rw [Qey, if_neg h5, List.cons_append, Yz, Q40 (Q4f d1), hP v.cod d1 d3 h5 g2 s, if_neg (by simp)]
   simp
end
end Go.Av
namespace Go.Av
noncomputable section
open Go.Proofs
set_option maxRecDepth 100000
def Q4w (v : Q0) : Int := if nnS v = true then (if v.Kind = 11 then 2143289344 else 9221120237041090560) else v.N'
mutual
def Q0.nrm : Q0 → Q0
 | .mk k n t is => ⟨k, Q4w ⟨k, n, t, is⟩, t, Q0.nrms is⟩
def Q0.nrms : List Q0 → List Q0
 | [] => []
 | v :: l => v.nrm :: Q0.nrms l
end
theorem Qls : ∀ l, Q0.nrms l = l.map Q0.nrm
 | [] => rfl
 | v :: l => by rw [Q0.nrms, Qls l]; rfl
theorem Qas (v : Q0) : v.nrm = ⟨v.Kind, Q4w v, v.Text, v.Items.map Q0.nrm⟩ := by cases v; rw [Q0.nrm, Qls]
theorem Q2y (v : Q0) : v.nrm.Kind = v.Kind := by rw [Qas]
theorem Q8t (v : Q0) : v.nrm.Text = v.Text := by rw [Qas]
theorem Gy (v : Q0) : v.nrm.Items = v.Items.map Q0.nrm := by rw [Qas]
theorem Q9l (v : Q0) : v.nrm.N' = Q4w v := by rw [Qas]
theorem Qvx (x : Int) : Q5 .neq x 0 = decide (x ≠ 0) := by rw [Bool.eq_iff_iff, Vb]; simp
theorem Q7s (v : Q0) : nnS v = ((decide (v.Kind = 11) && (decide (Q0w .u64 (Q48 .u64 v.N' 23) 255 = 255) && decide (Q07 .u64 v.N' 41 ≠ 0))) || (decide (v.Kind = 12) && (decide (Q0w .u64 (Q48 .u64 v.N' 52) 2047 = 2047) && decide (Q07 .u64 v.N' 12 ≠ 0)))) := by
 have h := Qsw 0 v
 unfold Zf at h
 simp only [Qb, Vi] at h
 by_cases k1 : v.Kind = 11
 ·have k2 : ¬ v.Kind = 12 := by omega
  rw [if_pos k1] at h
  split at h
  ·rename_i h1
   simp only [Option.some.injEq] at h
   rw [← h]
   rw [Qvx]
   simp [k1, h1]
  ·rename_i h1
   simp only [Option.some.injEq] at h
   rw [← h]
   simp [k1, h1]
 ·rw [if_neg k1] at h
  by_cases k2 : v.Kind = 12
  ·rw [if_pos k2] at h
   split at h
   ·rename_i h1
    simp only [Option.some.injEq] at h
    rw [← h]
    rw [Qvx]
    simp [k2, h1]
   ·rename_i h1
    simp only [Option.some.injEq] at h
    rw [← h]
    simp [k2, h1]
  ·rw [if_neg k2] at h
   simp only [Option.some.injEq] at h
   rw [← h]
   simp [k1, k2]
theorem Q9g {v : Q0} (h : nnS v = true) : v.Kind = 11 ∨ v.Kind = 12 := by
 rw [Q7s] at h
 simp only [Bool.or_eq_true, Bool.and_eq_true, decide_eq_true_eq] at h
 omega
theorem Qa7 {v w : Q0} (h1 : v.Kind = w.Kind) (h2 : v.N' = w.N') : nnS v = nnS w := by rw [Q7s, Q7s, h1, h2]
theorem Qe0 (k : Int) (t : List UInt8) (is : List Q0) (h : k = 11 ∨ k = 12) : nnS ⟨k, if k = 11 then 2143289344 else 9221120237041090560, t, is⟩ = true := by
 rcases h with rfl | rfl
 ·exact (Qa7 (w := ⟨11, 2143289344, [], []⟩) rfl rfl).trans (by rw [Q7s]; decide)
 ·exact (Qa7 (w := ⟨12, 9221120237041090560, [], []⟩) rfl rfl).trans (by rw [Q7s]; decide)
theorem Qny {v : Q0} (h : nnS v = true) : Q4w v = if v.Kind = 11 then 2143289344 else 9221120237041090560 := by unfold Q4w; rw [if_pos h]
theorem Qdz {v : Q0} (h : nnS v = false) : Q4w v = v.N' := by unfold Q4w; rw [if_neg (by simp [h])]
theorem Qtz (v : Q0) : nnS v.nrm = nnS v := by
 cases h : nnS v with
 | true =>
  have hk := Q9g h
  rw [Qas]
  unfold Q4w
  rw [if_pos h]
  exact Qe0 _ _ _ hk
 | false =>
  rw [← h]
  refine Qa7 (Q2y v) ?_
  rw [Q9l]
  unfold Q4w
  rw [if_neg (by simp [h])]
theorem Qqy (v : Q0) : v.nrm.sz = v.sz := by
 induction v using Q0.ind with
 | h v ih =>
  have hl : ∀ l : List Q0, (∀ x ∈ l, x.nrm.sz = x.sz) → Q0.szs (l.map Q0.nrm) = Q0.szs l := by
   intro l
   induction l with
   | nil => intro _; rfl
   | cons x l ihl => intro h; simp only [List.map_cons, Q0.szs, h x (.head _), ihl (fun y hy => h y (.tail _ hy))]
  rw [Q0.sz_eq, Gy, hl _ ih, v.sz_eq]
theorem Qgk (v : Q0) : v.nrm.wgt = v.wgt := by
 induction v using Q0.ind with
 | h v ih =>
  have hl : ∀ l : List Q0, (∀ x ∈ l, x.nrm.wgt = x.wgt) → Q0.wgts (l.map Q0.nrm) = Q0.wgts l := by
   intro l
   induction l with
   | nil => intro _; rfl
   | cons x l ihl => intro h; simp only [List.map_cons, Q0.wgts, h x (.head _), ihl (fun y hy => h y (.tail _ hy))]
  rw [Q0.wgt_eq, Gy, hl _ ih, v.wgt_eq, Q8t]
theorem Qox {v : Q0} (h : okU v.N') : okU (Q4w v) := by
 unfold Q4w
 split
 ·split <;> exact ⟨by omega, by omega⟩
 ·exact h
theorem Qic {v : Q0} (h : Fine v) : Fine v.nrm := by
 induction v using Q0.ind with
 | h v ih =>
  refine .mk _ (by rw [Q9l]; exact Qox h.num) (by rw [Q8t]; exact h.text) (fun x hx => ?_)
  rw [Gy] at hx
  obtain ⟨y, hy, rfl⟩ := List.mem_map.1 hx
  exact ih y hy (h.items y hy)
theorem Qfv {v : Q0} (h : v.Kind ≠ 11 ∧ v.Kind ≠ 12) : Q4w v = v.N' := by
 unfold Q4w
 rw [if_neg (fun hn => by have := Q9g hn; omega)]
theorem Qg7 : ∀ (n : Nat) (a b : Q0), a.sz ≤ n → Q1b a.nrm b.nrm = true → Q1b a b = true
 | 0, a, b, h, _ => by have := a.sz_eq; omega
 | n + 1, a, b, h, hh => by
  have hs := a.sz_eq
  rw [Q9e] at hh ⊢
  simp only [Q2y, Q8t, Gy, Q9l, Qtz, List.length_map, Bool.and_eq_true, Bool.or_eq_true, decide_eq_true_eq] at hh ⊢
  obtain ⟨h1, h2, h3, h4, h5⟩ := hh
  refine ⟨h1, h2, h3, ?_, ?_⟩
  ·rcases h4 with h4 | h4
   ·cases na : nnS a <;> cases nb : nnS b
    ·left; rw [Qdz na, Qdz nb] at h4; exact h4
    ·rw [Qdz na, Qny nb] at h4
     have hk := Q9g nb
     have : nnS a = true := by
      rw [← Qe0 a.Kind [] [] (by omega)]
      refine Qa7 rfl ?_
      show a.N' = _
      rw [h4, h1]
     rw [na] at this; cases this
    ·rw [Qny na, Qdz nb] at h4
     have hk := Q9g na
     have : nnS b = true := by
      rw [← Qe0 b.Kind [] [] (by omega)]
      refine Qa7 rfl ?_
      show b.N' = _
      rw [← h4, h1]
     rw [nb] at this; cases this
    ·right; exact ⟨rfl, rfl⟩
   ·right; exact h4
  ·have hl : ∀ (l m : List Q0), Q0.szs l ≤ n → Q0v (l.map Q0.nrm) (m.map Q0.nrm) = true → Q0v l m = true := by
    intro l
    induction l with
    | nil => intro m _ _; rfl
    | cons x l ihl =>
     intro m hz hm
     simp only [Q0.szs] at hz
     cases m with
     | nil => simp [Q0v] at hm
     | cons y m =>
      simp only [List.map_cons, Q0v, Bool.and_eq_true] at hm ⊢
      exact ⟨Qg7 n x y (by omega) hm.1, ihl m (by omega) hm.2⟩
   exact hl _ _ (by omega) h5
theorem Qpp {v : Q0} (h : Q1f v = 0) : Q1f v.nrm = 0 := by
 unfold Q1f at h ⊢
 rw [Q2y]
 split
 ·rfl
 ·rename_i hk
  rw [if_neg hk] at h
  split at h
  ·cases h
  ·rename_i hne
   rw [if_neg]
   rintro ⟨i, j, h1, h2, h3, h4, h5, x, y, hx, hy, ha⟩
   rw [Gy, List.length_map] at h3
   rw [Gy, List.getElem?_map] at hx hy
   cases hxi : v.Items[i]? with
   | none => rw [hxi] at hx; cases hx
   | some x' =>
    cases hyi : v.Items[j]? with
    | none => rw [hyi] at hy; cases hy
    | some y' =>
     rw [hxi] at hx; rw [hyi] at hy
     cases hx; cases hy
     exact hne ⟨i, j, h1, h2, h3, h4, h5, x', y', hxi, hyi, Qg7 _ x' y' (Nat.le_refl _) ha⟩
theorem Qnm {v : Q0} (h : Q57 v.Kind v.N' = true) : Q57 v.Kind (Q4w v) = true := by
 unfold Q4w
 split
 ·rename_i hn
  rcases Q9g hn with hk | hk <;> rw [hk] <;> decide
 ·exact h
theorem Qkg {v : Q0} (h : Ve v = 0) : Ve v.nrm = 0 := by
 obtain ⟨c1, c2, c3, c4, c5, c6, c7⟩ := Gg h
 unfold Ve at h ⊢
 simp only [Q2y, Q8t, Gy, Q9l, c4, List.map_nil] at h ⊢
 rw [Qnm c3]
 rw [c3] at h
 exact h
theorem Qjx {v : Q0} (hk : 22 ≤ v.Kind) (h : Gn v = true) : Gn v.nrm = true := by
 obtain ⟨s1, s2, s3, s4, s5⟩ := Q0j h
 have : v.nrm = ⟨v.Kind, v.N', [], v.Items.map Q0.nrm⟩ := by rw [Qas, Qfv (by omega), s1]
 rw [this]
 exact Qmu s2 s3 (fun h => by rw [List.length_map]; exact s4 h) (fun h => by rw [List.length_map]; exact s5 h)
theorem Qeq (v : Q0) : ∀ m : Int, U4 v m = 0 → U4 v.nrm m = 0 := by
 induction v using Q0.ind with
 | h v ih =>
  intro m h
  rcases Ga h with ⟨k1, k2, k3⟩ | ⟨k1, k2, k3, k4, k5, k6, k7⟩
  ·rw [Q6h, Q2y, if_neg (by omega), if_neg (by omega), if_pos k2]
   exact Qkg k3
  ·rw [Q6h, Q2y, if_neg (by omega), if_neg (by omega), if_neg (by omega), if_neg k3, Qjx k1 k4, if_neg (by simp), Gy, List.length_map, if_neg (by omega), Qpp k6, Q9l, Qfv (by omega)]
   refine Qbk _ _ _ _ (fun x hx => ?_)
   obtain ⟨y, hy, rfl⟩ := List.mem_map.1 hx
   refine ⟨ih y hy _ (k7 y hy).1, fun hk => ?_⟩
   rw [Q2y]; exact (k7 y hy).2 hk
end
end Go.Av
namespace Go.Av
noncomputable section
open Go.Proofs
set_option maxRecDepth 100000
theorem Qbz {R : Q0 → Option Q0} {N : Nat} {v : Q0} (hb : v.sz < 1000000000) (hR : ∀ y ∈ v.Items, R y = some y) : ∀ (n i : Nat), i ≤ v.Items.length → v.Items.length - i < n → Zr R N v n (i : Int) (v.Items.take i) = some v
 | 0, i, _, h => by omega
 | n + 1, i, hi, hn => by
  have hs := v.sz_eq
  have hl := Q0.szs_len v.Items
  simp only [Zr, Qb, W2, Z7, Xz]
  by_cases h : i < v.Items.length
  ·rw [if_pos (by omega), List.getElem?_eq_getElem h]
   simp only [Option.bind_some, hR _ (List.getElem_mem h)]
   rw [if_pos (by rw [Nat.ble_eq, List.length_take]; omega), Z1 _ (by omega), ← List.take_succ_eq_append_getElem h]
   exact_mod_cast Qbz (N := N) hb hR n (i + 1) (by omega) (by omega)
  ·rw [if_neg (by omega), List.take_of_length_le (by omega)]
   cases v; rfl
theorem Qca : ∀ (N : Nat) (v : Q0), v.sz < N → v.sz < 1000000000 → Yj N v = some v
 | 0, v, h, _ => by omega
 | N + 1, v, h, h2 => by
  have hs := v.sz_eq
  have hl := Q0.szs_len v.Items
  have := Qbz (R := Yj N) (N := N) (v := v) h2 (fun y hy => Qca N y (by have := Q0.szs_mem _ y hy; omega) (by have := Q0.szs_mem _ y hy; omega)) N 0 (by omega) (by omega)
  exact this
theorem Qbv {R : Q0 → Option Q0} {N : Nat} {v w : Q0} {c : Int} (hb : v.sz < 1000000000) (hR : ∀ y ∈ v.Items, R y = some y.nrm) : ∀ (n i : Nat), i ≤ v.Items.length → v.Items.length - i < n →
  X2 R N v w c n (i : Int) ((v.Items.take i).map Q0.nrm ++ v.Items.drop i) = some ⟨w.Kind, c, w.Text, v.Items.map Q0.nrm⟩
 | 0, i, _, h => by omega
 | n + 1, i, hi, hn => by
  have hs := v.sz_eq
  have hl := Q0.szs_len v.Items
  have hlen : ((v.Items.take i).map Q0.nrm).length = i := by rw [List.length_map, List.length_take]; omega
  simp only [X2, Qb, W2, Z7, Xz]
  by_cases h : i < v.Items.length
  ·rw [if_pos (by omega), List.getElem?_eq_getElem h]
   simp only [Option.bind_some, hR _ (List.getElem_mem h)]
   rw [List.getElem?_append_right (by omega), hlen, Nat.sub_self, List.drop_eq_getElem_cons h]
   simp only [List.getElem?_cons_zero, Option.bind_some, Int.toNat_natCast]
   rw [Z1 _ (by omega), List.set_append_right _ _ (by omega), hlen, Nat.sub_self, List.set_cons_zero]
   have e : (v.Items.take i).map Q0.nrm ++ v.Items[i].nrm :: v.Items.drop (i + 1) = (v.Items.take (i + 1)).map Q0.nrm ++ v.Items.drop (i + 1) := by
    rw [List.take_succ_eq_append_getElem h, List.map_append, List.append_assoc]; rfl
   rw [e]
   exact_mod_cast Qbv (N := N) hb hR n (i + 1) (by omega) (by omega)
  ·rw [if_neg (by omega), List.take_of_length_le (by omega), List.drop_of_length_le (by omega), List.append_nil]
theorem Qpw {n : Int} (h : okU n) : ((Q0w .u64 n 2139095040 = 2139095040) = (Q0w .u64 (Q48 .u64 n 23) 255 = 255)) ∧ ((Q0w .u64 n 8388607 ≠ 0) = (Q07 .u64 n 41 ≠ 0)) ∧
  ((Q0w .u64 n 9218868437227405312 = 9218868437227405312) = (Q0w .u64 (Q48 .u64 n 52) 2047 = 2047)) ∧ ((Q0w .u64 n 4503599627370495 ≠ 0) = (Q07 .u64 n 12 ≠ 0)) := by
 obtain ⟨h0, h1⟩ := h
 obtain ⟨n, rfl⟩ := Int.eq_ofNat_of_zero_le h0
 have h1 : n < 18446744073709551616 := by omega
 have e1 := Quq n 8 23 h1 (by decide) (by decide) (by decide)
 have e2 := Quq n 11 52 h1 (by decide) (by decide) (by decide)
 rw [show ((2 ^ 8 - 1 : Nat) : Int) = 255 from rfl, show (((2 ^ 8 - 1) * 2 ^ 23 : Nat) : Int) = 2139095040 from rfl, show ((23 : Nat) : Int) = 23 from rfl] at e1
 rw [show ((2 ^ 11 - 1 : Nat) : Int) = 2047 from rfl, show (((2 ^ 11 - 1) * 2 ^ 52 : Nat) : Int) = 9218868437227405312 from rfl, show ((52 : Nat) : Int) = 52 from rfl] at e2
 exact ⟨e1.symm, Qum n h1, e2.symm, Qu6 n h1⟩
theorem Q79 : ∀ (N : Nat) (v : Q0), Fine v → v.sz + 1 < N → v.sz < 1000000000 → Zy N v = some v.nrm
 | 0, v, _, h, _ => by omega
 | N + 1, v, hf, h, h2 => by
  have hs := v.sz_eq
  have hl := Q0.szs_len v.Items
  have hL : ∀ c, Zs (Zy N) N v v c = some ⟨v.Kind, c, v.Text, v.Items.map Q0.nrm⟩ := fun c => by
   have := Qbv (R := Zy N) (N := N) (v := v) (w := v) (c := c) h2 (fun y hy => Q79 N y (hf.items y hy) (by have := Q0.szs_mem _ y hy; omega) (by have := Q0.szs_mem _ y hy; omega)) N 0 (by omega) (by omega)
   simpa [Zs] using this
  rw [Qas]
  show V7 (Zy N) N v = _
  obtain ⟨b1, b2, b3, b4⟩ := Qpw hf.num
  simp only [V7, Qca N v (by omega) h2, Option.bind_some, X4, Yf, X7, hL, Qb, Vi, Vb, b1, b2, b3, b4]
  have hd := Q7s v
  unfold Q4w
  by_cases k1 : v.Kind = 11
  ·have k2 : ¬ v.Kind = 12 := by omega
   simp only [k1, decide_true, Bool.true_and, show decide ((11 : Int) = 12) = false from rfl, Bool.false_and, Bool.or_false] at hd
   simp only [if_pos k1, if_neg k2]
   by_cases q1 : Q0w .u64 (Q48 .u64 v.N' 23) 255 = 255 <;> by_cases q2 : Q07 .u64 v.N' 41 ≠ 0 <;> simp [hd, q1, q2]
  ·simp only [if_neg k1]
   by_cases k2 : v.Kind = 12
   ·simp only [k2, show decide ((12 : Int) = 11) = false from rfl, decide_true, Bool.true_and, Bool.false_and, Bool.false_or] at hd
    simp only [if_pos k2]
    by_cases q1 : Q0w .u64 (Q48 .u64 v.N' 52) 2047 = 2047 <;> by_cases q2 : Q07 .u64 v.N' 12 ≠ 0 <;> simp [hd, q1, q2]
   ·simp only [k1, k2, decide_false, Bool.false_and, Bool.or_false] at hd
    simp [hd, k2]
end
end Go.Av
