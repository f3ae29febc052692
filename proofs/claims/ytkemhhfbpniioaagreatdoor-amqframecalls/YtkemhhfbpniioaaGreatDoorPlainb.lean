/- The law. Part of a proof of a given statement: for every input the law returns true and the arguments read as before; no condition beyond the given row. -/
import Derived.Test.YtkemhhfbpniioaaGreatDoorPlain
import Derived.Test.YtkemhhfbpniioaaGreatDoorLiftF5
namespace Go.Av
noncomputable section
open Go.Proofs
set_option maxRecDepth 100000
def Qvi (k : Nat) : Bool := !(Uk k).2.2.2.2 || (if (Uk k).2.2.2.1 then decide (((Uk k).2.2.1 = 1 ∨ (Uk k).2.2.1 = 4) ∧ 22 ≤ (Uk k).2.1 ∧ (Uk k).2.1 ≤ 24) else decide ((Uk k).2.1 = 25 ∨ (Uk k).2.1 = 22))
theorem Qro : ((List.range 40).all Qvi) = true := by decide +kernel
theorem Qpm {P : Int × Int × Int × Bool × Bool → Prop} {B : Nat → Bool} (hB : ((List.range 40).all B) = true) (hP : ∀ k, B k = true → P (Uk k)) {code : Int} (h : ofB code = true) : P (ofT code) := by
 have h1 : bsI code < 40 ∧ Q16 (bsI code) = code := by simpa [ofB] using h
 have := List.all_eq_true.1 hB (bsI code) (by simpa using h1.1)
 have e : ofT code = Uk (bsI code) := by unfold ofT; rw [if_pos h]
 rw [e]; exact hP _ this
theorem Jq {code : Int} (h : ofB code = true) (hi : (ofS code).Items = true) : ((ofS code).Sized = true → ((ofS code).Width = 1 ∨ (ofS code).Width = 4) ∧ 22 ≤ (ofS code).Kind ∧ (ofS code).Kind ≤ 24) ∧ ((ofS code).Sized = false → (ofS code).Kind = 25 ∨ (ofS code).Kind = 22) :=
 Qpm (P := fun t => t.2.2.2.2 = true → (t.2.2.2.1 = true → (t.2.2.1 = 1 ∨ t.2.2.1 = 4) ∧ 22 ≤ t.2.1 ∧ t.2.1 ≤ 24) ∧ (t.2.2.2.1 = false → t.2.1 = 25 ∨ t.2.1 = 22)) Qro (fun k hk h1 => by
  simp only [Qvi, h1, Bool.not_true, Bool.false_or] at hk
  refine ⟨fun h2 => ?_, fun h2 => ?_⟩
  ·rw [h2] at hk; simpa using hk
  ·rw [h2] at hk; simpa using hk) h hi
theorem Qrw {R : List UInt8 → Int → Option Rd} {N : Nat} {most : Int} {rd : List UInt8 → Rd} {text : List UInt8} (hm : 1 ≤ most ∧ most ≤ 32) (ht : text.length ≤ 600000) (hN : 100 < N) (hR : ∀ s, s.length ≤ text.length → R s (most - 1) = some (rd s)) (hg : Qt1 rd) :
  ∀ (n i at' : Nat) (l : List Q0), i ≤ 2 → 2 - i < n → at' ≤ text.length → l.length = i →
  Yr R N most n (i : Int) text (at' : Int) 0 l = some (if (Jl rd (2 - i) (text.drop at') l).2 ≠ 0 then (Q2m, 0, (Jl rd (2 - i) (text.drop at') l).2) else (⟨25, 0, [], (Jl rd (2 - i) (text.drop at') l).1.1⟩, ((text.length - (Jl rd (2 - i) (text.drop at') l).1.2.length : Nat) : Int), 0))
 | 0, i, at', l, _, h, _, _ => by omega
 | n + 1, i, at', l, hi, hn, ha, hl => by
  simp only [Yr, Q6, Y6, Wb, Wy, Qh0 N text at' 0 ha, Option.bind_some, Qh (most - 1) (show _ by omega), hR (text.drop at') (by rw [List.length_drop]; omega)]
  by_cases hic : i < 2
  ·rw [if_pos (by omega)]
   obtain ⟨k, hk⟩ : ∃ k, 2 - i = k + 1 := ⟨2 - i - 1, by omega⟩
   rw [hk, Jl]
   have hgd := hg (text.drop at') (by rw [List.length_drop]; omega)
   generalize hr : rd (text.drop at') = r at hgd ⊢
   obtain ⟨x, m, e⟩ := r
   simp only [] at hgd ⊢
   by_cases he : e = 0
   ·subst he
    obtain ⟨g1, g2, g3⟩ := hgd rfl
    rw [List.length_drop] at g2
    obtain ⟨mm, rfl⟩ := Int.eq_ofNat_of_zero_le g1
    rw [if_pos rfl, Q69 N text at' mm (by unfold Qdr; omega) ha (by omega), if_pos (by omega)]
    simp only [Option.bind_some]
    rw [if_neg (by simp), if_pos (by simp [Nat.ble_eq]; omega), Qh _ (by omega), if_neg (show ¬ ((0 : Int) ≠ 0) by simp)]
    have ih := Qrw hm ht hN hR hg n (i + 1) (at' + mm) (l ++ [x]) (by omega) (by omega) (by omega) (by simp [hl])
    rw [show ((i : Int) + 1) = ((i + 1 : Nat) : Int) by push_cast; rfl, ih, show 2 - (i + 1) = k by omega, Q9n ha]
    simp only [Int.toNat_natCast]
   ·rw [if_neg he, if_pos (show e ≠ 0 from he), if_pos (show e ≠ 0 from he)]
    simp only []
    rw [if_pos (show e ≠ 0 from he)]; rfl
  ·rw [if_neg (by omega), show 2 - i = 0 by omega, Jl]
   simp only [Qt, Option.bind_some]
   rw [if_neg (show ¬ ((0 : Int) ≠ 0) by simp), List.length_drop]
   congr 3
   omega
theorem Qcq {rd : List UInt8 → Rd} {lo : Nat} (hg : Qt1 rd) (hlo : ∀ s, s.length ≤ 600000 → (rd s).2.2 = 0 → (lo : Int) ≤ (rd s).2.1 ∧ (rd s).1.sz + 1000 * lo ≤ 1 + 1000 * (rd s).2.1.toNat) : ∀ (c : Nat) (s : List UInt8) (acc : List Q0), s.length ≤ 600000 → (Jl rd c s acc).2 = 0 →
  ∃ k, k ≤ s.length ∧ (Jl rd c s acc).1.2 = s.drop k ∧ Q0.szs (Jl rd c s acc).1.1 + 1000 * (lo * c) ≤ Q0.szs acc + c + 1000 * k ∧ (Jl rd c s acc).1.1.length = acc.length + c ∧ lo * c ≤ k
 | 0, s, acc, _, _ => ⟨0, by omega, by simp [Jl], by simp [Jl], by simp [Jl], by simp⟩
 | c + 1, s, acc, hs, h => by
  rw [Jl] at h ⊢
  split at h
  ·rename_i he; exact absurd h he
  ·rename_i he
   rw [if_neg he]
   obtain ⟨g0, g0'⟩ := hlo s hs (Classical.byContradiction he)
   obtain ⟨g1, g2, g3⟩ := hg s hs (Classical.byContradiction he)
   obtain ⟨k, k1, k2, k3, k4, k5⟩ := Qcq hg hlo c (s.drop (rd s).2.1.toNat) (acc ++ [(rd s).1]) (by rw [List.length_drop]; omega) h
   rw [List.length_drop] at k1
   refine ⟨(rd s).2.1.toNat + k, by omega, by rw [k2, List.drop_drop], ?_, by rw [k4]; simp; omega, by rw [Nat.mul_succ]; omega⟩
   rw [Q0.szs_app] at k3
   rw [Nat.mul_succ]
   simp only [Q0.szs] at k3
   omega
theorem Q10 {data : Int → List UInt8 → Rd} (h : ∀ code, Qt1 (data code)) : Qt1 (Zf data) ∧ ∀ s, s.length ≤ 600000 → (Zf data s).2.2 = 0 → ((1 : Nat) : Int) ≤ (Zf data s).2.1 ∧ (Zf data s).1.sz + 1000 * 1 ≤ 1 + 1000 * (Zf data s).2.1.toNat := by
 have key : ∀ s, s.length ≤ 600000 → (Zf data s).2.2 = 0 → 1 ≤ (Zf data s).2.1 ∧ (Zf data s).2.1 ≤ s.length ∧ (Zf data s).1.sz + 1000 * 1 ≤ 1 + 1000 * (Zf data s).2.1.toNat := by
  intro s hs he
  cases s with
  | nil => simp [Zf] at he
  | cons b t =>
   simp only [Zf] at he ⊢
   split at he
   ·rename_i h1; exact absurd he h1
   ·rename_i h1
    rw [if_neg h1]
    simp only [List.length_cons] at hs ⊢
    obtain ⟨g1, g2, g3⟩ := h b.toNat t (by omega) (Classical.byContradiction h1)
    refine ⟨by omega, by push_cast; omega, ?_⟩
    have : ((data (b.toNat : Int) t).2.1 + 1).toNat = (data (b.toNat : Int) t).2.1.toNat + 1 := by omega
    rw [this]; omega
 exact ⟨fun s hs he => by obtain ⟨a, b, c⟩ := key s hs he; exact ⟨by omega, b, by omega⟩, fun s hs he => ⟨(key s hs he).1, (key s hs he).2.2⟩⟩
theorem Qrk {k num : Int} {q : (List Q0 × List UInt8) × Int} {tot : Nat} (h : (Qev k num q tot).2.2 = 0) : q.2 = 0 ∧ q.1.2 = [] ∧ Q3d ⟨k, num, [], q.1.1⟩ = 0 ∧ Qev k num q tot = (⟨k, num, [], q.1.1⟩, (tot : Int), 0) := by
 unfold Qev at h ⊢
 split at h
 ·simp only [] at h
  split at h
  ·cases h
  ·rename_i h1 _; exact absurd h h1
 split at h
 ·cases h
 split at h
 ·rename_i h3; exact absurd h h3
 ·rename_i h1 h2 h3
  rw [if_neg h1, if_neg h2, if_neg h3]
  exact ⟨Classical.byContradiction h1, Classical.byContradiction h2, Classical.byContradiction h3, rfl⟩
theorem Qly {data : Int → List UInt8 → Rd} {c : Qg} {s : List UInt8} (h : (Q9j data c s).2.2 = 0) : ∃ (body : List UInt8) (num : Int) (q : (List Q0 × List UInt8) × Int) (cnt : Nat) (rest : List UInt8), s.length ≥ c.Width.toNat + Q0o (s.take c.Width.toNat) ∧ body = (s.drop c.Width.toNat).take (Q0o (s.take c.Width.toNat)) ∧ c.Width.toNat ≤ body.length ∧ cnt ≤ 1000 ∧
  ((c.Kind ≠ 24 ∧ num = 0 ∧ rest = body.drop c.Width.toNat ∧ q = Jl (Zf data) cnt rest []) ∨ (c.Kind = 24 ∧ ∃ b : UInt8, body.drop c.Width.toNat = b :: rest ∧ ofB (b.toNat : Int) = true ∧ b.toNat ≠ 0 ∧ num = (ofS (b.toNat : Int)).Kind ∧ q = Jl (data (b.toNat : Int)) cnt rest [])) ∧
  (c.Kind = 23 → cnt % 2 = 0) ∧ (Qev c.Kind num q (c.Width.toNat + Q0o (s.take c.Width.toNat))).2.2 = 0 ∧ Q9j data c s = Qev c.Kind num q (c.Width.toNat + Q0o (s.take c.Width.toNat)) := by
 unfold Q9j at h ⊢
 split at h
 ·cases h
 rename_i h1; rw [if_neg h1]
 split at h
 ·cases h
 rename_i h2; rw [if_neg h2]
 unfold Qua at h ⊢
 split at h
 ·cases h
 rename_i h3; rw [if_neg h3]
 split at h
 ·cases h
 rename_i h4; rw [if_neg h4]
 split at h
 ·cases h
 rename_i h5; rw [if_neg h5]
 split at h
 ·rename_i h6; rw [if_pos h6]
  cases hb : ((s.drop c.Width.toNat).take (Q0o (s.take c.Width.toNat))).drop c.Width.toNat with
  | nil => rw [hb] at h; cases h
  | cons b rest =>
   rw [hb] at h
   simp only [Qzm] at h ⊢
   split at h
   ·cases h
   rename_i h7; rw [if_neg h7]
   refine ⟨_, _, _, _, rest, by omega, rfl, by omega, by omega, .inr ⟨h6, b, hb, ?_, ?_, rfl, rfl⟩, fun hk => by omega, h, rfl⟩
   ·cases ho : ofB (b.toNat : Int) with
    | true => rfl
    | false => exact absurd (.inl ho) h7
   ·exact fun ho => h7 (.inr ho)
 ·rename_i h6; rw [if_neg h6]
  exact ⟨_, _, _, _, _, by omega, rfl, by omega, by omega, .inl ⟨h6, rfl, rfl, rfl⟩, fun hk => by
   apply Classical.byContradiction
   intro hn; exact h5 ⟨hk, hn⟩, h, rfl⟩
theorem ar1 {z lo c k r : Nat} (h : z + 1000 * (lo * c) ≤ 0 + c + 1000 * k) (hk : k ≤ r) (hc : c ≤ 1000) : z ≤ 1000 + 1000 * r := by omega
theorem Qiw {code : Int} {s : List UInt8} (hs : s.length ≤ 600000) (h : (Qco code s).2.2 = 0) : 0 ≤ (Qco code s).2.1 ∧ (Qco code s).2.1 ≤ s.length ∧ (Qco code s).1.sz ≤ 1 + 1000 * (Qco code s).2.1.toNat := by
 generalize hg : Qco code s = g at h ⊢
 obtain ⟨x, n, e⟩ := g
 simp only at h
 subst h
 obtain ⟨h1, h2, h3, h4, h5, h6, h7⟩ := reads (by unfold Qdr; omega) hg
 refine ⟨h1, h2, ?_⟩
 rw [Q0.sz_eq, (Gd h5).2.2.2.1]
 simp only [Q0.szs]; omega
theorem Q12 : ∀ (m : Nat) (code : Int), Qt1 (X7 m code) := by
 intro m
 induction m with
 | zero =>
  intro code s hs h
  rw [X7] at h ⊢
  split at h
  ·cases h
  rename_i h1; rw [if_neg h1]
  split at h
  ·rename_i h2; rw [if_pos h2]; exact Qiw hs h
  ·cases h
 | succ m ih =>
  intro code s hs h
  obtain ⟨hrd, hr1⟩ := Q10 ih
  rw [X7] at h ⊢
  split at h
  ·cases h
  rename_i h1; rw [if_neg h1]
  split at h
  ·rename_i h2; rw [if_pos h2]; exact Qiw hs h
  rename_i h2; rw [if_neg h2]
  split at h
  ·rename_i h3; rw [if_pos h3]
   unfold Qof at h ⊢
   split at h
   ·rename_i h4; exact absurd h h4
   ·rename_i h4
    rw [if_neg h4]
    obtain ⟨k, k1, k2, k3, k4, k5⟩ := Qcq hrd hr1 2 s [] hs (Classical.byContradiction h4)
    simp only [k2, List.length_drop]
    refine ⟨by omega, by omega, ?_⟩
    rw [Q0.sz_eq]
    simp only [Q0.szs] at k3 ⊢
    omega
  rename_i h3; rw [if_neg h3]
  split at h
  ·rename_i h4; rw [if_pos h4]; simp only []; exact ⟨by omega, by omega, by rw [Q0.sz_eq]; simp [Q0.szs]⟩
  ·rename_i h4; rw [if_neg h4]
   obtain ⟨body, num, q, cnt, rest, p1, p2, p3, p4, p5, p6, p7, p8⟩ := Qly h
   obtain ⟨f1, f2, f3, f4⟩ := Qrk p7
   rw [p8, f4]
   simp only []
   have hbl : body.length ≤ Q0o (s.take (ofS code).Width.toNat) := by rw [p2, List.length_take]; omega
   have hq : Q0.szs q.1.1 ≤ 1000 + 1000 * rest.length ∧ rest.length ≤ body.length := by
    rcases p5 with ⟨_, _, e1, e2⟩ | ⟨_, b, e0, _, _, _, e2⟩
    ·have hrl : rest.length ≤ body.length := by rw [e1, List.length_drop]; omega
     have hbl2 : body.length ≤ s.length := by rw [p2, List.length_take, List.length_drop]; omega
     rw [e2] at f1 ⊢
     obtain ⟨k, k1, k2, k3, k4, k5⟩ := Qcq hrd hr1 cnt rest [] (by omega) f1
     simp only [Q0.szs] at k3
     exact ⟨ar1 k3 k1 p4, hrl⟩
    ·have hrl : rest.length ≤ body.length := by
      have := congrArg List.length e0
      rw [List.length_drop, List.length_cons] at this; omega
     have hbl2 : body.length ≤ s.length := by rw [p2, List.length_take, List.length_drop]; omega
     rw [e2] at f1 ⊢
     obtain ⟨k, k1, k2, k3, k4, k5⟩ := Qcq (lo := 0) (ih _) (fun s hs he => ⟨(ih _ s hs he).1, by have := (ih _ s hs he).2.2; omega⟩) cnt rest [] (by omega) f1
     simp only [Q0.szs] at k3
     exact ⟨ar1 k3 k1 p4, hrl⟩
   clear p5
   refine ⟨by omega, by omega, ?_⟩
   have hob : ofB code = true := by
    cases ho : ofB code with
    | true => rfl
    | false => exact absurd ho h1
   have hit : (ofS code).Items = true := by
    cases ho : (ofS code).Items with
    | true => rfl
    | false => exact absurd ho h2
   have hsz : (ofS code).Sized = true := by
    cases ho : (ofS code).Sized with
    | true => rfl
    | false => exact absurd ho h4
   have hw := ((Jq hob hit).1 hsz).1
   rw [Q0.sz_eq]
   simp only [Int.toNat_natCast]
   omega
end
end Go.Av
namespace Go.Av
noncomputable section
open Go.Proofs
set_option maxRecDepth 100000
theorem Qwy (N : Nat) (s : List UInt8) (i : Nat) (b : UInt8) (t : List UInt8) (h : s.drop i = b :: t) (hs : Qdr s) (hN : 10 < N) : Qz N ⟨s, i, 0⟩ 1 = some ((b.toNat : Int), ⟨s, ((i + 1 : Nat) : Int), 0⟩) := by
 have hl : i < s.length := by
  apply Classical.byContradiction
  intro hn
  rw [List.drop_of_length_le (by omega)] at h; cases h
 simp only [Qz]
 have := Q69 N s i 1 hs (by omega) (by omega)
 rw [show ((1 : Nat) : Int) = 1 from rfl] at this
 rw [this, if_pos (by omega), h]
 simp only [Option.bind_some, List.take_succ_cons, List.take_zero]
 rw [Qdp N [b] (by simp) hN]
 simp [Q0o]
theorem Qz8 (n : Nat) : ((n : Int).tmod 2 ≠ 0) = (n % 2 ≠ 0) := by
 apply propext
 rw [Int.tmod_eq_emod_of_nonneg (by omega)]
 omega
theorem Qso (m : Nat) (h : m ≤ 32) : Q7t (m : Int) = true := decide_eq_true (by omega)
theorem Qye {R1 : List UInt8 → Int → Option Rd} {R2 : Int → List UInt8 → Int → Option Rd} {R3 : List UInt8 → Int → Option Rd} {R4 : Qg → List UInt8 → Int → Option Rd} {N m : Nat} {c : Qg} {s : List UInt8} {data : Int → List UInt8 → Rd}
  (hN : 700000000 < N) (hm : m + 1 ≤ 32) (hs : s.length ≤ 600000) (hw : c.Width = 1 ∨ c.Width = 4) (hg : ∀ code, Qt1 (data code))
  (h1 : ∀ t, t.length ≤ 600000 → R1 t (((m + 1 : Nat) : Int) - 1) = some (Zf data t)) (h2 : ∀ code t, t.length ≤ 600000 → R2 code t (((m + 1 : Nat) : Int) - 1) = some (data code t)) :
  Jz R1 R2 R3 R4 N c s ((m + 1 : Nat) : Int) = some (Q9j data c s) := by
 obtain ⟨w, hw'⟩ : ∃ w : Nat, c.Width = w ∧ (w = 1 ∨ w = 4) := by
  rcases hw with h | h
  ·exact ⟨1, h, .inl rfl⟩
  ·exact ⟨4, h, .inr rfl⟩
 obtain ⟨hw1, hw2⟩ := hw'
 have hgr := (Q10 hg).1
 have hsn : Qdr s := by unfold Qdr; omega
 simp only [Jz, hw1, Qab N s w hsn (by omega) (by omega), Option.bind_some, Qp, Q6, Wy, Q2c, Wb]
 unfold Q9j
 rw [hw1, Int.toNat_natCast]
 by_cases hl : w ≤ s.length
 ·rw [if_pos hl]
  dsimp only
  rw [if_neg (show ¬ s.length < w by omega), if_neg (show ¬ ((0 : Int) ≠ 0) by simp), Q8s N s w 0 hl]
  simp only [Option.bind_some]
  have hlt := Q2g (s.take w)
  have h4 : 256 ^ (s.take w).length ≤ 256 ^ 4 := Nat.pow_le_pow_right (by omega) (by rw [List.length_take]; omega)
  have h5 : (256 : Nat) ^ 4 = 4294967296 := rfl
  generalize hn : Q0o (s.take w) = n at *
  rw [Q8x _ (by omega)]
  by_cases h6 : s.length - w < n
  ·rw [if_pos (by omega), if_pos h6]; rfl
  rw [if_neg (by omega), if_neg h6, Qh _ (by omega), Q69 N s w n hsn hl (by omega), if_pos (by omega)]
  simp only [Option.bind_some]
  have hbl : ((s.drop w).take n).length = n := by rw [List.length_take, List.length_drop]; omega
  generalize hbody : (s.drop w).take n = body at *
  have hbn : Qdr body := by unfold Qdr; omega
  unfold Qua
  rw [Qab N body w hbn (by omega) (by omega)]
  simp only [Option.bind_some]
  by_cases h7 : w ≤ body.length
  ·rw [if_pos h7]
   dsimp only
   rw [if_neg (show ¬ body.length < w by omega), if_neg (show ¬ ((0 : Int) ≠ 0) by simp)]
   have hlt2 := Q2g (body.take w)
   generalize hcnt : Q0o (body.take w) = cnt at *
   by_cases h8 : 1000 < cnt
   ·rw [if_pos (show (cnt : Int) > 1000 by omega), if_pos h8]; rfl
   rw [if_neg (show ¬ (cnt : Int) > 1000 by omega), if_neg h8]
   simp only [Qz8]
   have hm' : (1 : Int) ≤ ((m + 1 : Nat) : Int) ∧ ((m + 1 : Nat) : Int) ≤ 32 := by omega
   have arr : ∀ (L : (Int × Q4) → (Qg × Bool) → Option Rd), (∀ (b : UInt8) (t : List UInt8), body.drop w = b :: t → ofB (b.toNat : Int) = true → L ((b.toNat : Int), ⟨body, ((w + 1 : Nat) : Int), 0⟩) (ofS (b.toNat : Int), ofB (b.toNat : Int)) = some (Qev c.Kind (ofS (b.toNat : Int)).Kind (Jl (data (b.toNat : Int)) cnt t []) (w + n))) →
     ((Z3 N ⟨body, (w : Int), 0⟩).bind fun v20 => if v20.1 = 0 then some ((⟨0, 0, [], []⟩ : Q0), (0 : Int), (5 : Int)) else (Qz N v20.2 1).bind fun v23 => (Z9 N (IntKind.i64.wrap v23.1)).bind fun v25 =>
      if (!v25.2) = true then some ((⟨0, 0, [], []⟩ : Q0), (0 : Int), (8 : Int)) else if IntKind.i64.wrap v23.1 = 0 then some ((⟨0, 0, [], []⟩ : Q0), (0 : Int), (8 : Int)) else L v23 v25) = some (Qzm data cnt (w + n) c.Kind (body.drop w)) := by
    intro L hL
    rw [Q8s N body w 0 h7]
    simp only [Option.bind_some]
    cases hd : body.drop w with
    | nil =>
     have : body.length - w = 0 := by
      have := congrArg List.length hd
      rw [List.length_drop] at this; simpa using this
     rw [if_pos (by omega)]; rfl
    | cons b t =>
     have : body.length - w ≠ 0 := by
      have := congrArg List.length hd
      rw [List.length_drop, List.length_cons] at this; omega
     rw [if_neg (by omega), Qwy N body w b t hd hbn (by omega)]
     simp only [Option.bind_some, Z9, Qo3, Qzm]
     cases ho : ofB (b.toNat : Int) with
     | false => rw [if_pos (by rfl), if_pos (.inl rfl)]; rfl
     | true =>
      rw [if_neg (by simp)]
      by_cases hb0 : b.toNat = 0
      ·rw [if_pos (by omega), if_pos (.inr hb0)]; rfl
      ·rw [if_neg (by omega), if_neg (by simp [hb0])]
       have := hL b t hd ho
       rw [ho] at this; exact this
   have hR1 : ∀ t : List UInt8, t.length ≤ body.length → R1 t (((m + 1 : Nat) : Int) - 1) = some (Zf data t) := fun t ht => h1 t (by omega)
   have szb : Q0.szs ([] : List Q0) ≤ 0 + 1000 * w := by simp [Q0.szs]
   have szb1 : Q0.szs ([] : List Q0) ≤ 0 + 1000 * (w + 1) := by simp [Q0.szs]
   have kb : ∀ code : Int, ofB code = true → 0 ≤ (ofS code).Kind ∧ (ofS code).Kind ≤ 25 := fun code ho => by have := (Qej code ho).kind; omega
   have dl : ∀ (b : UInt8) (t : List UInt8), body.drop w = b :: t → body.drop (w + 1) = t ∧ w + 1 ≤ body.length := fun b t hd => by
    refine ⟨by rw [← List.drop_drop, hd]; rfl, ?_⟩
    have := congrArg List.length hd
    rw [List.length_drop, List.length_cons] at this; omega
   by_cases h23 : c.Kind = 23
   ·rw [if_pos h23]
    by_cases h9 : cnt % 2 ≠ 0
    ·rw [if_pos h9, if_pos ⟨h23, h9⟩]; rfl
    ·rw [if_neg h9, if_neg (show ¬ (c.Kind = 23 ∧ cnt % 2 ≠ 0) from fun h => h9 h.2), if_neg (by omega), if_neg (show ¬ c.Kind = 24 by omega)]
     have := Qe7 (R := R1) (N := N) (c := c) (v9 := (body, ⟨s, ((w + n : Nat) : Int), 0⟩)) (v11 := ((cnt : Int), ⟨body, (w : Int), 0⟩)) (rd := Zf data) (text := body) (cnt := cnt) (tot := w + n) hm' (by omega) (by omega) rfl rfl hN hR1 hgr N 0 w [] (by omega) (by omega) h7 rfl szb
     rw [Nat.sub_zero] at this
     exact this
   ·rw [if_neg h23, if_neg (show ¬ (c.Kind = 23 ∧ cnt % 2 ≠ 0) from fun h => h23 h.1)]
    by_cases h24 : c.Kind = 24
    ·rw [if_pos h24, if_pos h24]
     refine arr (fun v23 v25 => Y5 R1 R2 N c ((m + 1 : Nat) : Int) (body, ⟨s, ((w + n : Nat) : Int), 0⟩) ((cnt : Int), ⟨body, (w : Int), 0⟩) v23 v25 N 0 v23.2.text v23.2.at' v23.2.err []) (fun b t hd ho => ?_)
     obtain ⟨d1, d2⟩ := dl b t hd
     have := Qcy (R := R1) (R2 := R2) (N := N) (c := c) (v9 := (body, ⟨s, ((w + n : Nat) : Int), 0⟩)) (v11 := ((cnt : Int), ⟨body, (w : Int), 0⟩)) (v23 := ((b.toNat : Int), ⟨body, ((w + 1 : Nat) : Int), 0⟩)) (v25 := (ofS (b.toNat : Int), ofB (b.toNat : Int))) (rd := data (b.toNat : Int)) (text := body) (cnt := cnt) (tot := w + n) (b := b) hm' (by omega) (by omega) rfl rfl rfl (kb _ ho) hN (fun t ht => h2 _ t (by omega)) (hg _) N 0 (w + 1) [] (by omega) (by omega) d2 rfl szb1
     rw [Nat.sub_zero, d1] at this
     exact this
    ·rw [if_neg h24, if_neg h24]
     have := Qdt (R := R1) (N := N) (c := c) (v9 := (body, ⟨s, ((w + n : Nat) : Int), 0⟩)) (v11 := ((cnt : Int), ⟨body, (w : Int), 0⟩)) (rd := Zf data) (text := body) (cnt := cnt) (tot := w + n) hm' (by omega) (by omega) rfl rfl hN hR1 hgr N 0 w [] (by omega) (by omega) h7 rfl szb
     rw [Nat.sub_zero] at this
     exact this
  ·rw [if_neg h7]
   dsimp only
   rw [if_pos (show body.length < w by omega), if_pos (show (3 : Int) ≠ 0 by decide)]; rfl
 ·rw [if_neg hl]
  dsimp only
  rw [if_pos (show s.length < w by omega), if_pos (show (3 : Int) ≠ 0 by decide)]; rfl
theorem Qzb {m N : Nat} {s : List UInt8} (hm : m ≤ 32) (hs : s.length ≤ 600000) (h : ∀ code t, t.length ≤ s.length → Ud N code t (m : Int) = some (X7 m code t)) : Xl (N + 1) s (m : Int) = some (Zf (X7 m) s) := by
 show Q0g (Xl N) (Ud N) (Jd N) (Q00 N) N s (m : Int) = _
 simp only [Q0g, Qcg, Qso m hm, Option.bind_some, Q6, Bool.not_true, Bool.false_eq_true, if_false]
 cases s with
 | nil => rfl
 | cons b t =>
  rw [if_neg (by simp [Q3q]), show idx (b :: t) 0 = some b from rfl]
  simp only [Option.bind_some]
  rw [if_pos (by simp [Nat.ble_eq]), List.take_length, Qo3]
  simp only [List.drop_succ_cons, List.drop_zero]
  rw [h _ t (by simp)]
  simp only [Option.bind_some, Wy, Zf]
  by_cases he : (X7 m (b.toNat : Int) t).2.2 = 0
  ·rw [if_neg (by simp [he]), if_neg (by simp [he])]
   obtain ⟨g1, g2, g3⟩ := Q12 m (b.toNat : Int) t (by simp at hs; omega) he
   rw [Qh _ (by simp at hs; omega)]
  ·rw [if_pos he, if_pos he]; rfl
theorem Z0h : ∀ m : Nat, m ≤ 32 → ∀ N : Nat, 700000100 + 4 * m < N → ∀ (code : Int) (s : List UInt8), s.length ≤ 600000 → Ud N code s (m : Int) = some (X7 m code s) := by
 intro m
 induction m with
 | zero =>
  intro hm N hN code s hs
  obtain ⟨N, rfl⟩ : ∃ K, N = K + 1 := ⟨N - 1, by omega⟩
  show Jm (Xl N) (Ud N) (Jd N) (Q00 N) N code s ((0 : Nat) : Int) = _
  simp only [Jm, Qcg, Qso 0 hm, Option.bind_some, Q6, Bool.not_true, Bool.false_eq_true, if_false, Z9, Wb, X7]
  cases h1 : ofB code with
  | false => rfl
  | true =>
   simp only [Bool.not_true, Bool.false_eq_true, if_false, Bool.true_eq_false]
   cases h2 : (ofS code).Items with
   | false =>
    simp only [Bool.not_false, if_true]
    rw [Qvd N code s (by unfold Qdr; omega) (by omega) (by omega)]; rfl
   | true => rfl
 | succ m ih =>
  intro hm N hN code s hs
  obtain ⟨N, rfl⟩ : ∃ K, N = K + 3 := ⟨N - 3, by omega⟩
  show Jm (Xl (N + 2)) (Ud (N + 2)) (Jd (N + 2)) (Q00 (N + 2)) (N + 2) code s ((m + 1 : Nat) : Int) = _
  simp only [Jm, Qcg, Qso (m + 1) hm, Option.bind_some, Q6, Bool.not_true, Bool.false_eq_true, if_false, Z9, Wb, X7]
  cases h1 : ofB code with
  | false => rfl
  | true =>
   simp only [Bool.not_true, Bool.false_eq_true, if_false, Bool.true_eq_false]
   cases h2 : (ofS code).Items with
   | false =>
    simp only [Bool.not_false, if_true]
    rw [Qvd (N + 2) code s (by unfold Qdr; omega) (by omega) (by omega)]; rfl
   | true =>
    simp only [Bool.not_true, Bool.false_eq_true, if_false, Bool.true_eq_false]
    rw [if_neg (show ¬ (((m + 1 : Nat) : Int) = 0) by omega)]
    have hR : ∀ t : List UInt8, t.length ≤ 600000 → Xl (N + 1) t (((m + 1 : Nat) : Int) - 1) = some (Zf (X7 m) t) := fun t ht => by
     rw [show (((m + 1 : Nat) : Int) - 1) = (m : Int) by omega]
     exact Qzb (by omega) ht (fun code u hu => ih (by omega) N (by omega) code u (by omega))
    have hD : ∀ (code : Int) (t : List UInt8), t.length ≤ 600000 → Ud (N + 1) code t (((m + 1 : Nat) : Int) - 1) = some (X7 m code t) := fun code t ht => by
     rw [show (((m + 1 : Nat) : Int) - 1) = (m : Int) by omega]
     exact ih (by omega) (N + 1) (by omega) code t ht
    by_cases h3 : (ofS code).Kind = 25
    ·rw [if_pos h3, if_pos h3]
     show (J5 (Xl (N + 1)) (Ud (N + 1)) (Jd (N + 1)) (Q00 (N + 1)) (N + 1) s ((m + 1 : Nat) : Int)).bind _ = _
     simp only [J5]
     have := Qrw (R := Xl (N + 1)) (N := N + 1) (most := ((m + 1 : Nat) : Int)) (rd := Zf (X7 m)) (text := s) (by omega) (by omega) (by omega) (fun t ht => hR t (by omega)) (Q10 (Q12 m)).1 (N + 1) 0 0 [] (by omega) (by omega) (by omega) rfl
     rw [show ((0 : Nat) : Int) = 0 from rfl] at this
     rw [this]; rfl
    ·rw [if_neg h3, if_neg h3]
     cases h4 : (ofS code).Sized with
     | false => rfl
     | true =>
      simp only [Bool.not_true, Bool.false_eq_true, if_false, Bool.true_eq_false]
      show (Jz (Xl (N + 1)) (Ud (N + 1)) (Jd (N + 1)) (Q00 (N + 1)) (N + 1) (ofS code) s ((m + 1 : Nat) : Int)).bind _ = _
      rw [Qye (m := m) (c := ofS code) (by omega) hm hs ((Jq h1 h2).1 h4).1 (Q12 m) hR hD]; rfl
theorem Qya (m N : Nat) (s : List UInt8) (hm : m ≤ 32) (hN : 700000200 + 4 * m < N) (hs : s.length ≤ 600000) : Xl N s (m : Int) = some (Zf (X7 m) s) := by
 obtain ⟨N, rfl⟩ : ∃ K, N = K + 1 := ⟨N - 1, by omega⟩
 exact Qzb hm hs (fun code t ht => Z0h m hm N (by omega) code t (by omega))
end
end Go.Av
namespace Go.Av
noncomputable section
open Go.Proofs
set_option maxRecDepth 100000
theorem Qpu (n m k : Nat) : n &&& (m * 2 ^ k) = ((n / 2 ^ k) &&& m) * 2 ^ k := by
 apply Nat.eq_of_testBit_eq
 intro i
 rw [Nat.testBit_and, Nat.testBit_mul_two_pow, Nat.testBit_mul_two_pow, Nat.testBit_and, Nat.testBit_div_two_pow]
 by_cases h : k ≤ i
 ·simp [h]
 ·simp [h]
theorem Qwn (n k : Nat) (h : k ≤ 64) : Q4e .u64 (n : Int) (k : Int) = ((n / 2 ^ k : Nat) : Int) := by
 have e : min (k : Int).toNat IntKind.u64.bits = k := by simp [IntKind.bits]; omega
 simp only [Q4e, e]
 rw [Int.fdiv_eq_ediv_of_nonneg _ (by exact_mod_cast Nat.zero_le _)]
 push_cast; rfl
theorem Qzu (n e k : Nat) (hn : n < 18446744073709551616) (hk : k ≤ 63) (he : (2 ^ e - 1) * 2 ^ k < 18446744073709551616) (he2 : 2 ^ e - 1 < 18446744073709551616) :
  (Q2t .u64 (Q4e .u64 (n : Int) (k : Int)) ((2 ^ e - 1 : Nat) : Int) = ((2 ^ e - 1 : Nat) : Int)) = (Q2t .u64 (n : Int) (((2 ^ e - 1) * 2 ^ k : Nat) : Int) = (((2 ^ e - 1) * 2 ^ k : Nat) : Int)) := by
 rw [Qwn n k (by omega), Q6e _ _ (Nat.lt_of_le_of_lt (Nat.div_le_self _ _) hn) he2, Q6e _ _ hn he, Qpu]
 apply propext
 have hp : 0 < 2 ^ k := Nat.two_pow_pos k
 constructor
 ·intro h
  have := Int.ofNat.inj h
  rw [this]
 ·intro h
  have := Nat.eq_of_mul_eq_mul_right hp (Int.ofNat.inj h)
  rw [this]
theorem Qyt (n : Nat) (hn : n < 18446744073709551616) : (Q2t .u64 (n : Int) 8388607 ≠ 0) = (Q0d .u64 (n : Int) 41 ≠ 0) := by
 have e : Q0d .u64 (n : Int) 41 = ((n : Int) * 2199023255552) % 18446744073709551616 := by
  show IntKind.u64.wrap _ = _
  rw [Q9u]; rfl
 rw [show (8388607 : Int) = ((8388607 : Nat) : Int) from rfl, Q6e _ _ hn (by decide), e, show (8388607 : Nat) = 2 ^ 23 - 1 from rfl, Nat.and_two_pow_sub_one_eq_mod]
 apply propext; omega
theorem Qzf (n : Nat) (hn : n < 18446744073709551616) : (Q2t .u64 (n : Int) 4503599627370495 ≠ 0) = (Q0d .u64 (n : Int) 12 ≠ 0) := by
 have e : Q0d .u64 (n : Int) 12 = ((n : Int) * 4096) % 18446744073709551616 := by
  show IntKind.u64.wrap _ = _
  rw [Q9u]; rfl
 rw [show (4503599627370495 : Int) = ((4503599627370495 : Nat) : Int) from rfl, Q6e _ _ hn (by decide), e, show (4503599627370495 : Nat) = 2 ^ 52 - 1 from rfl, Nat.and_two_pow_sub_one_eq_mod]
 apply propext; omega
theorem Qfu (N : Nat) (v : Q0) (h : okU v.N') : Vm N v = some (nnS v) := by
 rw [← Qx4 0 v]
 obtain ⟨h0, h1⟩ := h
 obtain ⟨n, hn⟩ := Int.eq_ofNat_of_zero_le h0
 rw [hn] at h1
 have h1 : n < 18446744073709551616 := by omega
 have e1 := Qzu n 8 23 h1 (by decide) (by decide) (by decide)
 have e2 := Qzu n 11 52 h1 (by decide) (by decide) (by decide)
 rw [show ((2 ^ 8 - 1 : Nat) : Int) = 255 from rfl, show (((2 ^ 8 - 1) * 2 ^ 23 : Nat) : Int) = 2139095040 from rfl, show ((23 : Nat) : Int) = 23 from rfl] at e1
 rw [show ((2 ^ 11 - 1 : Nat) : Int) = 2047 from rfl, show (((2 ^ 11 - 1) * 2 ^ 52 : Nat) : Int) = 9218868437227405312 from rfl, show ((52 : Nat) : Int) = 52 from rfl] at e2
 have l1 : Q5 .neq (Q2t .u64 (n : Int) 8388607) 0 = Q5 .neq (Q0d .u64 (n : Int) 41) 0 := by
  rw [Bool.eq_iff_iff, Wy, Wy, Qyt n h1]
 have l2 : Q5 .neq (Q2t .u64 (n : Int) 4503599627370495) 0 = Q5 .neq (Q0d .u64 (n : Int) 12) 0 := by
  rw [Bool.eq_iff_iff, Wy, Wy, Qzf n h1]
 unfold Vm Zo
 simp only [hn, l1, l2, Q6, Wb, e1, e2]
 by_cases k1 : v.Kind = 11
 ·have k2 : ¬ v.Kind = 12 := by omega
  simp only [if_pos k1, if_neg k2]
  split
  ·split
   ·rename_i h; rw [h]
   ·rename_i h
    cases hc : Q5 .neq (Q0d .u64 (n : Int) 41) 0 with
    | true => exact absurd hc h
    | false => rfl
  ·rfl
 ·simp only [if_neg k1]
theorem Qeu {R : Q0 → Q0 → Option Bool} {N : Nat} {a b : Q0} (hlen : a.Items.length = b.Items.length) (hb : a.Items.length < 4611686018427387904)
  (hR : ∀ y ∈ a.Items, ∀ z ∈ b.Items, R y z = some (Q4f y z)) : ∀ (n i : Nat), i ≤ a.Items.length → a.Items.length - i < n →
  Xi R N a b n (i : Int) = some (Q3n (a.Items.drop i) (b.Items.drop i)) ∧ Xa R N a b n (i : Int) = some (Q3n (a.Items.drop i) (b.Items.drop i))
 | 0, i, _, h => by omega
 | n + 1, i, h1, h2 => by
  simp only [Xi, Xa, Q6, Y6, Qn]
  by_cases hi : i < a.Items.length
  ·rw [if_pos (by omega), if_pos (by omega), Za, Za, List.getElem?_eq_getElem hi, List.getElem?_eq_getElem (show i < b.Items.length by omega)]
   simp only [Option.bind_some, hR _ (List.getElem_mem hi) _ (List.getElem_mem (show i < b.Items.length by omega))]
   rw [Qh _ (by omega)]
   obtain ⟨ih1, ih2⟩ := Qeu (N := N) hlen hb hR n (i + 1) (by omega) (by omega)
   rw [List.drop_eq_getElem_cons hi, List.drop_eq_getElem_cons (show i < b.Items.length by omega), Q3n]
   cases Q4f a.Items[i] b.Items[i] with
   | true =>
    simp only [Bool.not_true, Bool.false_eq_true, if_false, Bool.true_and]
    exact ⟨by exact_mod_cast ih1, by exact_mod_cast ih2⟩
   | false => simp
  ·rw [if_neg (by omega), if_neg (by omega), List.drop_of_length_le (by omega)]
   simp [Q3n]
theorem Qdx : ∀ (N : Nat) (a b : Q0), Fine a → Fine b → a.sz < N → a.sz < 1000000000 → Xn N a b = some (Q4f a b)
 | 0, a, b, _, _, h, _ => by have := a.sz_eq; omega
 | N + 1, a, b, fa, fb, h, h2 => by
  have hs := a.sz_eq
  have hl := Q0.szs_len a.Items
  rw [Qd3]
  simp only [Xn, G3, Q6, Wy, G4, Qn, Qfu N a fa.num, Qfu N b fb.num, Option.bind_some]
  by_cases e1 : a.Kind = b.Kind
  ·by_cases e3 : a.Text = b.Text
   ·by_cases e4 : a.Items.length = b.Items.length
    ·simp only [if_neg (show ¬ (a.Kind ≠ b.Kind) by simp [e1]), if_neg (show ¬ (a.Text ≠ b.Text) by simp [e3]), if_neg (show ¬ ((a.Items.length : Int) ≠ b.Items.length) by simp [e4])]
     obtain ⟨i1, i2⟩ := Qeu (N := N) (R := Xn N) e4 (by omega) (fun y hy z hz => Qdx N y z (fa.items y hy) (fb.items z hz) (by have := Q0.szs_mem _ y hy; omega) (by have := Q0.szs_mem _ y hy; omega)) N 0 (by omega) (by omega)
     rw [show ((0 : Nat) : Int) = 0 from rfl] at i1 i2
     rw [i1, i2, List.drop_zero, List.drop_zero]
     simp only [e1, e3, e4, decide_true, Bool.true_and]
     by_cases e2 : a.N' = b.N'
     ·simp [e2]
     ·simp only [e2, ne_eq, not_false_eq_true, if_true, decide_false, Bool.false_or]
      cases nnS a <;> cases nnS b <;> simp
    ·simp only [if_neg (show ¬ (a.Kind ≠ b.Kind) by simp [e1]), if_neg (show ¬ (a.Text ≠ b.Text) by simp [e3]), if_pos (show ((a.Items.length : Int) ≠ b.Items.length) by omega)]
     simp [e4]
     repeat' split
     all_goals rfl
   ·simp only [if_neg (show ¬ (a.Kind ≠ b.Kind) by simp [e1]), if_pos (show (a.Text ≠ b.Text) from e3)]
    simp [e3]
    repeat' split
    all_goals rfl
  ·rw [if_pos (by simpa using e1)]
   simp [e1]
end
end Go.Av
namespace Go.Av
noncomputable section
open Go.Proofs
set_option maxRecDepth 100000
theorem Qgi {R : Q0 → Q0 → Option Bool} {N : Nat} {a b : Q0} (hlen : a.Items.length = b.Items.length) (hb : a.Items.length < 4611686018427387904)
  (hR : ∀ y ∈ a.Items, ∀ z, R y z = some (decide (y = z))) : ∀ (n i : Nat), i ≤ a.Items.length → a.Items.length - i < n →
  W5 R N a b n (i : Int) = some (decide (a.Items.drop i = b.Items.drop i))
 | 0, i, _, h => by omega
 | n + 1, i, h1, h2 => by
  simp only [W5, Q6, Y6, Qn]
  by_cases hi : i < a.Items.length
  ·rw [if_pos (by omega), Za, Za, List.getElem?_eq_getElem hi, List.getElem?_eq_getElem (show i < b.Items.length by omega)]
   simp only [Option.bind_some, hR _ (List.getElem_mem hi)]
   rw [Qh _ (by omega)]
   have ih := Qgi (N := N) hlen hb hR n (i + 1) (by omega) (by omega)
   rw [List.drop_eq_getElem_cons hi, List.drop_eq_getElem_cons (show i < b.Items.length by omega)]
   by_cases he : a.Items[i] = b.Items[i]
   ·rw [← he]; simp only [decide_true, Bool.not_true, Bool.false_eq_true, if_false, List.cons.injEq, true_and]
    exact_mod_cast ih
   ·have hne : ¬ (a.Items[i] :: List.drop (i + 1) a.Items = b.Items[i] :: List.drop (i + 1) b.Items) := fun e => he (List.cons.inj e).1
    simp only [he, decide_false, Bool.not_false, if_true]
    rw [decide_eq_false hne]
  ·rw [if_neg (by omega), List.drop_of_length_le (by omega), List.drop_of_length_le (by omega)]
   simp
theorem Qg0 : ∀ (N : Nat) (a b : Q0), a.sz < N → a.sz < 1000000000 → Wa N a b = some (decide (a = b))
 | 0, a, b, h, _ => by have := a.sz_eq; omega
 | N + 1, a, b, h, h2 => by
  have hs := a.sz_eq
  have hl := Q0.szs_len a.Items
  simp only [Wa, Ge, Q6, Wy, G4, Qn]
  by_cases e1 : a.Kind = b.Kind
  ·by_cases e2 : a.N' = b.N'
   ·by_cases e3 : a.Text = b.Text
    ·by_cases e4 : a.Items.length = b.Items.length
     ·rw [if_neg (by simp [e1]), if_neg (by simp [e2]), if_neg (by simp [e3]), if_neg (by simp [e4])]
      have := Qgi (N := N) (R := Wa N) e4 (by omega) (fun y hy z => Qg0 N y z (by have := Q0.szs_mem _ y hy; omega) (by have := Q0.szs_mem _ y hy; omega)) N 0 (by omega) (by omega)
      rw [show (0 : Int) = ((0 : Nat) : Int) from rfl, this]
      cases a; cases b; simp_all
     ·rw [if_neg (by simp [e1]), if_neg (by simp [e2]), if_neg (by simp [e3]), if_pos (by omega)]
      have : a ≠ b := fun e => e4 (by rw [e])
      simp [this]
    ·rw [if_neg (by simp [e1]), if_neg (by simp [e2]), if_pos (by simpa using e3)]
     have : a ≠ b := fun e => e3 (by rw [e])
     simp [this]
   ·rw [if_neg (by simp [e1]), if_pos (by simpa using e2)]
    have : a ≠ b := fun e => e2 (by rw [e])
    simp [this]
  ·rw [if_pos (by simpa using e1)]
   have : a ≠ b := fun e => e1 (by rw [e])
   simp [this]
open Classical in
theorem Qmq {N : Nat} {v : Q0} (hf : Fine v) (hb : v.sz < 1000000000) (hN : v.sz < N) {k0 : Int → Option Bool} {i : Nat} (hi : i < v.Items.length) (i2 : i % 2 = 0) : ∀ (n k : Nat), i - k < n → k % 2 = 0 → k ≤ i →
  Xd N k0 v.Items (i : Int) n (k : Int) = if ∃ j, k ≤ j ∧ j < i ∧ j % 2 = 0 ∧ AL v i j then some true else k0 ((i + 2 : Nat) : Int)
 | 0, k, h, _, _ => by omega
 | n + 1, k, h, hk, hki => by
  have hs := v.sz_eq
  have hl := Q0.szs_len v.Items
  simp only [Xd, Q6, Y6, Za]
  by_cases hlt : k < i
  ·rw [if_pos (by omega), List.getElem?_eq_getElem hi, List.getElem?_eq_getElem (show k < v.Items.length by omega)]
   simp only [Option.bind_some]
   have hsz := Q0.szs_mem _ _ (List.getElem_mem hi)
   rw [Qdx N _ _ (hf.items _ (List.getElem_mem hi)) (hf.items _ (List.getElem_mem (show k < v.Items.length by omega))) (by omega) (by omega)]
   simp only [Option.bind_some]
   cases hal : Q4f v.Items[i] v.Items[k] with
   | true =>
    rw [if_pos rfl, if_pos ⟨k, Nat.le_refl _, hlt, hk, _, _, List.getElem?_eq_getElem hi, List.getElem?_eq_getElem (by omega), hal⟩]
   | false =>
    rw [if_neg (by simp), Qh _ (by omega)]
    have := Qmq (k0 := k0) hf hb hN hi i2 n (k + 2) (by omega) (by omega) (by omega)
    rw [show ((k : Int) + 2) = ((k + 2 : Nat) : Int) by push_cast; rfl, this]
    by_cases hx : ∃ j, k + 2 ≤ j ∧ j < i ∧ j % 2 = 0 ∧ AL v i j
    ·rw [if_pos hx]
     obtain ⟨j, j1, j2, j3, j4⟩ := hx
     rw [if_pos ⟨j, by omega, j2, j3, j4⟩]
    ·rw [if_neg hx, if_neg]
     rintro ⟨j, j1, j2, j3, j4⟩
     by_cases hjk : j = k
     ·subst hjk
      obtain ⟨x, y, x1, y1, z1⟩ := j4
      rw [List.getElem?_eq_getElem hi] at x1
      rw [List.getElem?_eq_getElem (by omega)] at y1
      cases x1; cases y1
      rw [hal] at z1; cases z1
     ·exact hx ⟨j, by omega, j2, j3, j4⟩
  ·rw [if_neg (by omega), Qh _ (by omega), if_neg (by rintro ⟨j, j1, j2, _⟩; omega)]
   push_cast; rfl
open Classical in
theorem Qmy {N : Nat} {v : Q0} (hf : Fine v) (hb : v.sz < 1000000000) (hN : v.sz < N) : ∀ (n i : Nat), v.Items.length - i < n → i % 2 = 0 → i ≤ v.Items.length + 2 →
  Zr N v.Items n (i : Int) = some (if ∃ i' j, i ≤ i' ∧ i' % 2 = 0 ∧ i' < v.Items.length ∧ j < i' ∧ j % 2 = 0 ∧ AL v i' j then true else false)
 | 0, i, h, _, _ => by omega
 | n + 1, i, h, hi, hle => by
  have hs := v.sz_eq
  have hl := Q0.szs_len v.Items
  simp only [Zr, Q6, Y6, Qn]
  by_cases hlt : i < v.Items.length
  ·rw [if_pos (by omega)]
   have h1 := Qmq (N := N) (k0 := Zr N v.Items n) hf hb hN hlt hi N 0 (by omega) (by omega) (by omega)
   rw [show ((0 : Nat) : Int) = 0 from rfl] at h1
   rw [h1]
   by_cases hx : ∃ j, 0 ≤ j ∧ j < i ∧ j % 2 = 0 ∧ AL v i j
   ·rw [if_pos hx]
    obtain ⟨j, _, j2, j3, j4⟩ := hx
    rw [if_pos ⟨i, j, Nat.le_refl _, hi, hlt, j2, j3, j4⟩]
   ·rw [if_neg hx, Qmy hf hb hN n (i + 2) (by omega) (by omega) (by omega)]
    by_cases hy : ∃ i' j, i + 2 ≤ i' ∧ i' % 2 = 0 ∧ i' < v.Items.length ∧ j < i' ∧ j % 2 = 0 ∧ AL v i' j
    ·rw [if_pos hy]
     obtain ⟨i', j, a1, a2, a3⟩ := hy
     rw [if_pos ⟨i', j, by omega, a2, a3⟩]
    ·rw [if_neg hy, if_neg]
     rintro ⟨i', j, a1, a2, a3, a4, a5, a6⟩
     by_cases he : i' = i
     ·subst he; exact hx ⟨j, by omega, a4, a5, a6⟩
     ·exact hy ⟨i', j, by omega, a2, a3, a4, a5, a6⟩
  ·rw [if_neg (by omega), if_neg]
   rintro ⟨i', j, a1, a2, a3, _⟩; omega
theorem Qmb (v : Q0) : Q3d v = 0 ∨ Q3d v = 16 := by
 unfold Q3d
 split
 ·exact .inl rfl
 ·split
  ·exact .inr rfl
  ·exact .inl rfl
open Classical in
theorem Qm5 (N : Nat) (v : Q0) (hf : Fine v) (hk : v.Kind = 23) (hb : v.sz < 1000000000) (hN : v.sz + 5 < N) : Ym N v.Items = some (decide (Q3d v = 16)) := by
 have hs := v.sz_eq
 have hl := Q0.szs_len v.Items
 have h0 := Qmy hf hb (show v.sz < N by omega) N 0 (by omega) (by omega) (by omega)
 rw [show ((0 : Nat) : Int) = 0 from rfl] at h0
 unfold Ym
 rw [h0]
 have hkey : Q3d v = 16 ↔ ∃ i j, 2 ≤ i ∧ i % 2 = 0 ∧ i < v.Items.length ∧ j < i ∧ j % 2 = 0 ∧ AL v i j := by
  unfold Q3d
  rw [if_neg (fun h => h hk)]
  split
  ·rename_i hx; exact ⟨fun _ => hx, fun _ => rfl⟩
  ·rename_i hx; exact ⟨fun h => (by cases h), fun h => absurd h hx⟩
 by_cases hx : ∃ i' j, 0 ≤ i' ∧ i' % 2 = 0 ∧ i' < v.Items.length ∧ j < i' ∧ j % 2 = 0 ∧ AL v i' j
 ·rw [if_pos hx]
  obtain ⟨i, j, a1, a2, a3, a4, a5, a6⟩ := hx
  rw [decide_eq_true (hkey.2 ⟨i, j, by omega, a2, a3, a4, a5, a6⟩)]
 ·rw [if_neg hx, decide_eq_false]
  rw [hkey]
  rintro ⟨i, j, a1, a2, a3, a4, a5, a6⟩
  exact hx ⟨i, j, by omega, a2, a3, a4, a5, a6⟩
theorem Qin (N : Nat) (v : Q0) : Vw N v = some (Q1e v) := by
 rw [← Qff v]
 unfold Vw Q98
 simp only [Q6, Wb, Wy, G4]
 by_cases h1 : v.Text ≠ []
 ·rw [if_pos h1, if_pos h1]
 rw [if_neg h1, if_neg h1]
 by_cases h2 : v.Kind = 24
 ·have e : Q5 .eql v.Kind 24 = true := by rw [Wb]; exact h2
  simp only [e, if_pos h2, Bool.not_true, Bool.false_eq_true, if_false]
 ·have e : Q5 .eql v.Kind 24 = false := Bool.eq_false_iff.2 (by rw [ne_eq, Wb]; exact h2)
  simp only [e, if_neg h2, Bool.not_false, if_true]
  split
  ·rfl
  ·split
   ·rfl
   ·by_cases h3 : v.Kind = 23
    ·rw [if_neg (by simp [h3]), if_pos h3]
    ·rw [if_pos h3, if_neg h3]
theorem Qc4 {R : Q0 → Int → Option Int} {N : Nat} {v : Q0} {m : Int} (hf : Fine v) (hb : v.sz < 1000000000) (hN : v.sz + 5 < N) (hm : 1 ≤ m ∧ m ≤ 32) (hR : ∀ y ∈ v.Items, R y (m - 1) = some (Xv y (m - 1))) : ∀ (n i : Nat), i ≤ v.Items.length → v.Items.length - i < n →
  Yj R N v m n (i : Int) = some (Q1d (v.Items.drop i) v.Kind v.N' (m - 1) (Q3d v))
 | 0, i, _, h => by omega
 | n + 1, i, hi, hn => by
  have hs := v.sz_eq
  have hl := Q0.szs_len v.Items
  simp only [Yj, Q6, Y6, Wb, Wy, Qn, Za, Qh (m - 1) (show _ by omega)]
  by_cases h : i < v.Items.length
  ·rw [if_pos (by omega), List.getElem?_eq_getElem h, List.drop_eq_getElem_cons h, Q1d]
   simp only [Option.bind_some, hR _ (List.getElem_mem h)]
   rw [Qh _ (by omega)]
   have ih := Qc4 (N := N) hf hb hN hm hR n (i + 1) (by omega) (by omega)
   rw [show ((i : Int) + 1) = ((i + 1 : Nat) : Int) by push_cast; rfl, ih]
   by_cases h24 : v.Kind = 24
   ·rw [if_pos h24]
    by_cases hw : IntKind.u64.wrap v.Items[i].Kind ≠ v.N'
    ·rw [if_pos hw, if_pos ⟨h24, hw⟩]
    ·rw [if_neg hw, if_neg (show ¬ (v.Kind = 24 ∧ IntKind.u64.wrap v.Items[i].Kind ≠ v.N') from fun hh => hw hh.2)]
     by_cases hc : Xv v.Items[i] (m - 1) ≠ 0
     ·rw [if_pos hc, if_pos hc]
     ·rw [if_neg hc, if_neg hc]
   ·rw [if_neg h24, if_neg (show ¬ (v.Kind = 24 ∧ IntKind.u64.wrap v.Items[i].Kind ≠ v.N') from fun hh => h24 hh.1)]
    by_cases hc : Xv v.Items[i] (m - 1) ≠ 0
    ·rw [if_pos hc, if_pos hc]
    ·rw [if_neg hc, if_neg hc]
  ·rw [if_neg (by omega), List.drop_of_length_le (by omega), Q1d]
   by_cases h23 : v.Kind = 23
   ·rw [if_pos h23, Qm5 N v hf h23 hb hN]
    simp only [Option.bind_some]
    rcases Qmb v with h | h
    ·rw [h]; rfl
    ·rw [h]; rfl
   ·rw [if_neg h23]
    unfold Q3d
    rw [if_pos h23]
theorem Qbl : ∀ (N : Nat) (v : Q0) (m : Int), Fine v → v.sz + 300050 < N → v.sz < 1000000000 → 0 ≤ m → m ≤ 32 → Xm N v m = some (Xv v m)
 | 0, v, m, _, h, _, _, _ => by omega
 | N + 1, v, m, hv, h, h2, m0, m1 => by
  have hs := v.sz_eq
  have hl := Q0.szs_len v.Items
  rw [Q40]
  have ht := hv.text
  simp only [Xm, G8, Q6, Y6, Q2c, Q75, Wb, Qn, Q6l N v hv.num (show v.Text.length < N by omega) (by omega), Qin, Option.bind_some]
  split
  ·rfl
  rename_i h1
  by_cases h25 : v.Kind > 25
  ·rw [if_pos h25, if_pos (show 25 < v.Kind from h25)]
  rw [if_neg h25, if_neg (show ¬ 25 < v.Kind from h25)]
  split
  ·rfl
  by_cases hm0 : m = 0
  ·rw [if_pos hm0, if_pos hm0]
  rw [if_neg hm0, if_neg hm0]
  cases Q1e v with
  | false => rfl
  | true =>
   simp only [Bool.not_true, Bool.false_eq_true, if_false, Bool.true_eq_false]
   by_cases hlen : 1000 < v.Items.length
   ·rw [if_pos (by omega), if_pos hlen]
   rw [if_neg (by omega), if_neg hlen]
   have := Qc4 (R := Xm N) (N := N) (v := v) (m := m) hv h2 (by omega) ⟨by omega, m1⟩ (fun y hy => Qbl N y (m - 1) (hv.items y hy) (by have := Q0.szs_mem _ y hy; omega) (by have := Q0.szs_mem _ y hy; omega) (by omega) (by omega)) N 0 (by omega) (by omega)
   exact this
theorem Q7h (N : Nat) (v : Q0) (m : Int) (hv : Fine v) (h : v.sz + 300050 < N) (h2 : v.sz < 1000000000) : Xq N v m = some (Vf v m) := by
 simp only [Xq, Q6, Y6, Q2c, Vf]
 by_cases h1 : m < 0
 ·rw [if_pos h1, if_pos (show Q7t m = false from decide_eq_false (by omega))]
 by_cases h3 : m > 32
 ·rw [if_neg h1, if_pos h3, if_pos (show Q7t m = false from decide_eq_false (by omega))]
 rw [if_neg h1, if_neg h3, if_neg (show ¬ (Q7t m = false) by rw [show Q7t m = true from decide_eq_true (by omega)]; simp), Qbl N v m hv h h2 (by omega) (by omega)]; rfl
end
end Go.Av
namespace Go.Av
noncomputable section
open Go.Proofs
set_option maxRecDepth 100000
def Qvl (k : Nat) : Bool := !(decide ((Uk k).2.1 = 25)) || decide ((Uk k).1 = 0)
theorem Qpx : ((List.range 40).all Qvl) = true := by decide +kernel
theorem Z0l {code : Int} (h : ofB code = true) (hk : (ofS code).Kind = 25) : code = 0 := by
 have := Qpm (P := fun t => t.2.1 = 25 → t.1 = 0) Qpx (fun k hk h1 => by simpa [Qvl, h1] using hk) h hk
 rw [← (Qej code h).code]; exact this
theorem Qn1 {d : Int → List UInt8 → Rd} {s : List UInt8} (he : (Zf d s).2.2 = 0) : ∃ b u, s = b :: u ∧ (d (b.toNat : Int) u).2.2 = 0 ∧ Zf d s = ((d (b.toNat : Int) u).1, (d (b.toNat : Int) u).2.1 + 1, 0) := by
 cases s with
 | nil => simp [Zf] at he
 | cons b u =>
  have h1 : (d (b.toNat : Int) u).2.2 = 0 := by
   simp only [Zf] at he
   split at he
   ·rename_i h1; exact absurd he h1
   ·rename_i h1; exact Classical.byContradiction h1
  refine ⟨b, u, rfl, h1, ?_⟩
  simp only [Zf]; rw [if_neg (by simp [h1])]
noncomputable def Qv7 (d : Int → List UInt8 → Rd) (code : Int) (s : List UInt8) : Rd := if (ofS code).Kind = 25 then Qof (Zf d) s else if (ofS code).Sized = false then (⟨(ofS code).Kind, 0, [], []⟩, 0, 0) else Q9j d (ofS code) s
theorem Qk2 {code : Int} (h1 : ofB code = true) (h2 : (ofS code).Items = false) (m : Nat) (s : List UInt8) : X7 m code s = Qco code s := by
 cases m <;> simp only [X7, h1, h2, if_true, if_false, Bool.true_eq_false]
theorem Qo1 {code : Int} (h1 : ofB code = true) (h2 : (ofS code).Items = true) (m : Nat) (s : List UInt8) : X7 (m + 1) code s = Qv7 (X7 m) code s := by
 simp only [X7, h1, h2, if_false, Bool.true_eq_false]; rfl
theorem Qm1 {m : Nat} {code : Int} {s : List UInt8} (he : (X7 m code s).2.2 = 0) : ofB code = true ∧ ((ofS code).Items = false ∨ (ofS code).Items = true ∧ ∃ k, m = k + 1) := by
 have h1 : ofB code = true := by
  cases h : ofB code with
  | true => rfl
  | false => cases m <;> simp [X7, h] at he
 refine ⟨h1, ?_⟩
 cases h2 : (ofS code).Items with
 | false => exact .inl rfl
 | true =>
  cases m with
  | zero => simp [X7, h1, h2] at he
  | succ m => exact .inr ⟨rfl, m, rfl⟩
theorem Q5s {rd : List UInt8 → Rd} {P : Q0 → Prop} (hP : ∀ s, s.length ≤ 300000 → (rd s).2.2 = 0 → P (rd s).1) : ∀ (c : Nat) (s : List UInt8) (acc : List Q0), s.length ≤ 300000 → (∀ x ∈ acc, P x) → (Jl rd c s acc).2 = 0 → (∀ x ∈ (Jl rd c s acc).1.1, P x) ∧ (Jl rd c s acc).1.1.length = acc.length + c
 | 0, s, acc, _, ha, _ => ⟨by simpa [Jl] using ha, by simp [Jl]⟩
 | c + 1, s, acc, hs, ha, h => by
  rw [Jl] at h ⊢
  split at h
  ·rename_i he; exact absurd h he
  ·rename_i he
   rw [if_neg he]
   have := Q5s hP c (s.drop (rd s).2.1.toNat) (acc ++ [(rd s).1]) (by rw [List.length_drop]; omega) (fun x hx => by
    rcases List.mem_append.1 hx with hx | hx
    ·exact ha x hx
    ·rw [List.mem_singleton.1 hx]; exact hP s hs (Classical.byContradiction he)) h
   refine ⟨this.1, ?_⟩
   rw [this.2, List.length_append, List.length_singleton]; omega
theorem Qb3 : ∀ (l : List Q0) (k n m : Int), (∀ x ∈ l, Xv x m = 0 ∧ (k = 24 → IntKind.u64.wrap x.Kind = n)) → Q1d l k n m 0 = 0
 | [], _, _, _, _ => by rw [Q1d]
 | x :: l, k, n, m, h => by
  obtain ⟨h1, h2⟩ := h x (by simp)
  rw [Q1d, if_neg (fun hh => hh.2 (h2 hh.1)), if_neg (by simp [h1])]
  exact Qb3 l k n m (fun y hy => h y (by simp [hy]))
theorem Qjo {k n : Int} {l : List Q0} (h24 : k = 24 → 1 ≤ n ∧ n ≤ 24) (h0 : k ≠ 24 → n = 0) (h25 : k = 25 → l.length = 2) (h23 : k = 23 → l.length % 2 = 0) : Q1e ⟨k, n, [], l⟩ = true := by
 unfold Q1e Q98
 simp only [Q6, G4, Wb, Wy, Qcc, Qn]
 rw [if_neg (by simp)]
 by_cases e : k = 24
 ·rw [if_pos e, if_pos (h24 e).1]
  have := (h24 e).2
  simp [Q75]; exact this
 ·rw [if_neg e, if_neg (by simp [h0 e])]
  by_cases e5 : k = 25
  ·rw [if_pos e5]
   simp [Wb, h25 e5]
  ·rw [if_neg e5]
   by_cases e3 : k = 23
   ·rw [if_pos e3]
    have := h23 e3
    simp [Wb, Int.tmod_eq_emod_of_nonneg]; omega
   ·rw [if_neg e3]; rfl
theorem Ql4 {k n : Int} {l : List Q0} (h : k ≠ 23) : Q3d ⟨k, n, [], l⟩ = 0 := by
 unfold Q3d
 rw [if_pos h]
theorem Qch {k n : Int} {l : List Q0} {m : Nat} (hk : 22 ≤ k ∧ k ≤ 25) (hl : l.length ≤ 1000) (hit : ∀ x ∈ l, Fine x ∧ Xv x m = 0 ∧ (k = 24 → IntKind.u64.wrap x.Kind = n)) (hkeys : Q3d ⟨k, n, [], l⟩ = 0)
  (h24 : k = 24 → 1 ≤ n ∧ n ≤ 24) (h0 : k ≠ 24 → n = 0) (h25 : k = 25 → l.length = 2) (h23 : k = 23 → l.length % 2 = 0) : Fine ⟨k, n, [], l⟩ ∧ Xv ⟨k, n, [], l⟩ ((m + 1 : Nat) : Int) = 0 := by
 refine ⟨.mk _ ?_ (by simp) (fun x hx => (hit x hx).1), ?_⟩
 ·by_cases h : k = 24
  ·have := h24 h; exact ⟨by simp only []; omega, by simp only []; omega⟩
  ·have := h0 h; exact ⟨by simp only []; omega, by simp only []; omega⟩
 ·rw [Q40]
  simp only [hkeys, Qjo h24 h0 h25 h23]
  rw [if_neg (by omega), if_neg (by omega), if_neg (by omega), if_neg (by omega), if_neg (by simp), if_neg (by omega), show (((m + 1 : Nat) : Int) - 1) = (m : Int) by omega]
  exact Qb3 _ _ _ _ (fun x hx => (hit x hx).2)
theorem Qfk {code : Int} {s : List UInt8} (m : Int) (hs : s.length ≤ 300000) (h : (Qco code s).2.2 = 0) : Fine (Qco code s).1 ∧ Xv (Qco code s).1 m = 0 ∧ (Qco code s).1.Kind = (ofS code).Kind := by
 generalize hg : Qco code s = g at h ⊢
 obtain ⟨x, n, e⟩ := g
 simp only at h
 subst h
 obtain ⟨h1, h2, h3, h4, h5, h6, h7⟩ := reads (by unfold Qdr; omega) hg
 obtain ⟨c1, c2, c3, c4, _⟩ := Gd h5
 show Fine x ∧ Xv x m = 0 ∧ x.Kind = (ofS code).Kind
 refine ⟨.mk _ h3 (by omega) (by simp [c4]), ?_, (Q3h h6).2.1.symm⟩
 rw [Q40, if_neg (by omega), if_neg (by omega), if_pos (by omega)]; exact h5
theorem Qfy : ∀ (m : Nat) (code : Int) (s : List UInt8), s.length ≤ 300000 → (X7 m code s).2.2 = 0 → Fine (X7 m code s).1 ∧ Xv (X7 m code s).1 m = 0 ∧ (X7 m code s).1.Kind = (ofS code).Kind := by
 intro m
 induction m with
 | zero =>
  intro code s hs he
  obtain ⟨h1, h2 | ⟨h2, k, hk⟩⟩ := Qm1 he
  ·rw [Qk2 h1 h2] at he ⊢
   exact Qfk _ hs he
  ·omega
 | succ m ih =>
  intro code s hs he
  obtain ⟨h1, h2 | ⟨h2, k, hk⟩⟩ := Qm1 he
  ·rw [Qk2 h1 h2] at he ⊢
   exact Qfk _ hs he
  rw [Qo1 h1 h2] at he ⊢
  have hsh := Jq h1 h2
  have hrd : ∀ s : List UInt8, s.length ≤ 300000 → (Zf (X7 m) s).2.2 = 0 → Fine (Zf (X7 m) s).1 ∧ Xv (Zf (X7 m) s).1 m = 0 := fun s hs he => by
   obtain ⟨b, u, rfl, e1, e2⟩ := Qn1 he
   have := ih b.toNat u (by simp at hs; omega) e1
   rw [e2]; exact ⟨this.1, this.2.1⟩
  unfold Qv7 at he ⊢
  by_cases k25 : (ofS code).Kind = 25
  ·rw [if_pos k25] at he ⊢
   have e1 : (Jl (Zf (X7 m)) 2 s []).2 = 0 := by
    unfold Qof at he
    split at he
    ·exact he
    ·rename_i h1; exact Classical.byContradiction h1
   obtain ⟨i1, i2⟩ := Q5s (P := fun x => Fine x ∧ Xv x m = 0) hrd 2 s [] hs (by simp) e1
   unfold Qof
   rw [if_neg (by simp [e1]), k25]
   simp only []
   have hl2 : (Jl (Zf (X7 m)) 2 s []).1.1.length = 2 := by simpa using i2
   have := Qch (k := 25) (n := 0) (l := (Jl (Zf (X7 m)) 2 s []).1.1) (m := m) (by omega) (by omega) (fun x hx => ⟨(i1 x hx).1, (i1 x hx).2, fun h => by omega⟩) (Ql4 (by omega)) (by omega) (fun _ => rfl) (fun _ => hl2) (by omega)
   exact ⟨this.1, this.2, trivial⟩
  rw [if_neg k25] at he ⊢
  by_cases hsz : (ofS code).Sized = false
  ·rw [if_pos hsz] at he ⊢
   have hk : (ofS code).Kind = 22 := by have := hsh.2 hsz; omega
   rw [hk]
   have := Qch (k := 22) (n := 0) (l := []) (m := m) (by omega) (by simp) (by simp) (Ql4 (by omega)) (by omega) (fun _ => rfl) (by omega) (by omega)
   exact ⟨this.1, this.2, rfl⟩
  rw [if_neg hsz] at he ⊢
  have hsz : (ofS code).Sized = true := by
   cases h : (ofS code).Sized with
   | true => rfl
   | false => exact absurd h hsz
  obtain ⟨body, num, q, cnt, rest, p1, p2, p3, p4, p5, p6, p7, p8⟩ := Qly he
  obtain ⟨f1, f2, f3, f4⟩ := Qrk p7
  rw [p8, f4]
  have hk := (hsh.1 hsz).2
  have hbl2 : body.length ≤ s.length := by
   rw [p2]
   exact Nat.le_trans (List.length_take_le' _ _) (by rw [List.length_drop]; exact Nat.sub_le _ _)
  rcases p5 with ⟨q0, q1, q2, q3⟩ | ⟨q0, b, q1, q2, q3, q4, q5⟩
  ·have hrl : rest.length ≤ body.length := by rw [q2, List.length_drop]; omega
   rw [q3] at f1
   obtain ⟨i1, i2⟩ := Q5s (P := fun x => Fine x ∧ Xv x m = 0) hrd cnt rest [] (by omega) (by simp) f1
   rw [← q3] at i1 i2
   have hlc : q.1.1.length = cnt := by simpa using i2
   have := Qch (k := (ofS code).Kind) (n := num) (l := q.1.1) (m := m) (by omega) (by omega) (fun x hx => ⟨(i1 x hx).1, (i1 x hx).2, fun h => absurd h q0⟩) f3 (fun h => absurd h q0) (fun _ => q1) (by omega) (fun h => by rw [hlc]; exact p6 h)
   exact ⟨this.1, this.2, rfl⟩
  ·have hrl : rest.length ≤ body.length := by
    have := congrArg List.length q1
    rw [List.length_drop, List.length_cons] at this; omega
   rw [q5] at f1
   obtain ⟨i1, i2⟩ := Q5s (P := fun x => Fine x ∧ Xv x m = 0 ∧ x.Kind = (ofS (b.toNat : Int)).Kind) (ih (b.toNat : Int)) cnt rest [] (by omega) (by simp) f1
   rw [← q5] at i1 i2
   have hlc : q.1.1.length = cnt := by simpa using i2
   have hbk := (Qej _ q2).kind
   have hb25 : (ofS (b.toNat : Int)).Kind ≠ 25 := fun h => q3 (by have := Z0l q2 h; omega)
   have := Qch (k := (ofS code).Kind) (n := num) (l := q.1.1) (m := m) (by omega) (by omega) (fun x hx => ⟨(i1 x hx).1, (i1 x hx).2.1, fun _ => by rw [(i1 x hx).2.2, q4, Q9u]; omega⟩) f3 (fun _ => by rw [q4]; omega) (fun h => absurd q0 h) (by omega) (by omega)
   exact ⟨this.1, this.2, rfl⟩
end
end Go.Av
namespace Go.Av
noncomputable section
open Go.Proofs
set_option maxRecDepth 100000
theorem Qcf {Lp : Nat → List UInt8 → Int → List Q0 → Option Rd} {nx : List UInt8 → Option Rd} {E : List UInt8 → List Q0 → Option Rd} {v11 k num : Int} {cnt tot : Nat} {rd : List UInt8 → Rd}
  (hLp : ∀ n body i l, Lp (n + 1) body i l = cond (Q5 .lss i v11) ((nx body).bind fun v => cond (Q5 .eql v.2.2 3) (some ((⟨0, 0, [], []⟩ : Q0), 0, 5)) (cond (Q5 .neq v.2.2 0) (some ((⟨0, 0, [], []⟩ : Q0), 0, v.2.2)) (cond (Nat.ble ((l.length + 1 + 4096) * 56) 17592186044416) (cond (decide (0 ≤ v.2.1)) (cond (Nat.ble v.2.1.toNat body.length && Nat.ble body.length body.length) (Lp n ((body.take body.length).drop v.2.1.toNat) (IntKind.wrap .u64 (i + 1)) (l ++ [v.1])) none) none) none))) (E body l))
  (h11 : v11 = (cnt : Int)) (hc : cnt ≤ 1000) (hR : ∀ s, s.length ≤ 300000 → nx s = some (rd s)) (hg : Qt1 rd) (hf : ∀ s, s.length ≤ 300000 → (rd s).2.2 = 0 → Fine (rd s).1)
  (hE : ∀ body l, (∀ x ∈ l, Fine x) → Q0.szs l ≤ 300001000 → E body l = some (Qev k num ((l, body), 0) tot)) :
  ∀ (n i : Nat) (body : List UInt8) (l : List Q0), i ≤ cnt → cnt - i < n → body.length ≤ 300000 → l.length = i → (∀ x ∈ l, Fine x) → Q0.szs l ≤ i + 1000 * (300000 - body.length) →
  Lp n body (i : Int) l = some (Qev k num (Jl rd (cnt - i) body l) tot)
 | 0, i, body, l, _, h, _, _, _, _ => by omega
 | n + 1, i, body, l, hi, hn, hb, hl, hfl, hz => by
  rw [hLp]
  simp only [Q6, Y6, Wb, Wy, h11, hR body hb, Option.bind_some, List.take_length]
  by_cases hic : i < cnt
  ·rw [if_pos (by omega)]
   obtain ⟨k', hk⟩ : ∃ k', cnt - i = k' + 1 := ⟨cnt - i - 1, by omega⟩
   rw [hk, Jl]
   have hgd := hg body (by omega)
   have hfd := hf body hb
   generalize hr : rd body = r at hgd hfd ⊢
   obtain ⟨x, m, e⟩ := r
   simp only [] at hgd hfd ⊢
   by_cases he : e = 0
   ·subst he
    obtain ⟨g1, g2, g3⟩ := hgd rfl
    obtain ⟨mm, rfl⟩ := Int.eq_ofNat_of_zero_le g1
    simp only [Int.toNat_natCast] at g3 ⊢
    rw [if_neg (by decide), if_neg (by simp), if_pos (by simp [Nat.ble_eq]; omega), if_pos (by simp), if_pos (by simp [Nat.ble_eq]; omega), Qzx i (by omega), if_neg (by simp)]
    have ih := Qcf hLp h11 hc hR hg hf hE n (i + 1) (body.drop mm) (l ++ [x]) (by omega) (by omega) (by rw [List.length_drop]; omega) (by simp [hl]) (fun y hy => by
     rcases List.mem_append.1 hy with hy | hy
     ·exact hfl y hy
     ·rw [List.mem_singleton.1 hy]; exact hfd rfl) (by
     rw [Q0.szs_app, List.length_drop]
     simp only [Q0.szs] at g3 ⊢
     omega)
    rw [ih, show cnt - (i + 1) = k' by omega]
   ·rw [if_pos (show e ≠ 0 from he), if_pos (show e ≠ 0 from he), Qcm he]
    by_cases h3 : e = 3
    ·rw [if_pos h3, if_pos h3]; rfl
    ·rw [if_neg h3, if_neg h3]; rfl
  ·rw [if_neg (by omega), show cnt - i = 0 by omega, Jl]
   exact hE body l hfl (by omega)
theorem Qt3 {N : Nat} {body : List UInt8} {l : List Q0} {a : Int} {tot : Nat} (hfl : ∀ x ∈ l, Fine x) (hz : Q0.szs l ≤ 300001000) (hN : 700000000 < N) (ha : a = (tot : Int)) :
  (cond (Q3q .neq body []) (some ((⟨0, 0, [], []⟩ : Q0), (0 : Int), (5 : Int))) ((Ym N l).bind fun v101 => cond v101 (some ((⟨0, 0, [], []⟩ : Q0), 0, 16)) (some ((⟨23, 0, [], l⟩ : Q0), a, 0)))) = some (Qev 23 0 ((l, body), 0) tot) := by
 have hs : Q0.sz ⟨23, 0, [], l⟩ = 1 + Q0.szs l := by rw [Q0.sz_eq]
 have h1 := Qm5 N ⟨23, 0, [], l⟩ (.mk _ Qud (by simp) hfl) rfl (by omega) (by omega)
 simp only at h1
 simp only [h1, Q6, G4, Option.bind_some, ha]
 unfold Qev
 simp only []
 rw [if_neg (show ¬ ((0 : Int) ≠ 0) by simp)]
 by_cases hb : body ≠ []
 ·rw [if_pos hb, if_pos hb]; rfl
 ·rw [if_neg hb, if_neg hb]
  rcases Qmb ⟨23, 0, [], l⟩ with h | h
  ·rw [h]; simp
  ·rw [h]; simp [Q2m]
theorem Qmn {body : List UInt8} {l : List Q0} {k num a : Int} {tot : Nat} (hk : k ≠ 23) (ha : a = (tot : Int)) :
  (cond (Q3q .neq body []) (some ((⟨0, 0, [], []⟩ : Q0), (0 : Int), (5 : Int))) (some ((⟨k, num, [], l⟩ : Q0), a, 0))) = some (Qev k num ((l, body), 0) tot) := by
 simp only [Q6, G4, ha]
 unfold Qev
 simp only []
 rw [if_neg (show ¬ ((0 : Int) ≠ 0) by simp), Ql4 hk]
 by_cases hb : body ≠ []
 ·rw [if_pos hb, if_pos hb]; rfl
 ·rw [if_neg hb, if_neg hb, if_neg (by simp)]
theorem Qsd : ∀ (m : Nat) (code : Int) (s : List UInt8), s.length ≤ 300000 → (X7 m code s).2.2 = 0 → Fine (X7 m code s).1 := fun m code s h1 h2 => (Qfy m code s h1 h2).1
theorem Qjt (m : Nat) (s : List UInt8) (h1 : s.length ≤ 300000) (h2 : (Zf (X7 m) s).2.2 = 0) : Fine (Zf (X7 m) s).1 := by
 obtain ⟨b, u, rfl, e1, e2⟩ := Qn1 h2
 have := Qfy m b.toNat u (by simp at h1; omega) e1
 rw [e2]; exact this.1
theorem Qrc {R1 : List UInt8 → Int → Option Rd} {R2 : Int → List UInt8 → Int → Option Rd} {R3 : Qg → List UInt8 → Int → Option Rd} {R4 : Int → List UInt8 → Int → Option Rd} {N m m' : Nat} {c : Qg} {s : List UInt8}
  (hN : 700000000 < N) (hm : m + 1 ≤ 32) (hs : s.length ≤ 300000) (hw : c.Width = 1 ∨ c.Width = 4) (_hk : 22 ≤ c.Kind ∧ c.Kind ≤ 24)
  (h1 : ∀ t, t.length ≤ 300000 → R4 (-1) t (((m + 1 : Nat) : Int) - 1) = some (Zf (X7 m') t)) (h2 : ∀ code t, 0 ≤ code → t.length ≤ 300000 → R4 code t (((m + 1 : Nat) : Int) - 1) = some (X7 m' code t)) :
  V9 R1 R2 R3 R4 N c s ((m + 1 : Nat) : Int) = some (Q9j (X7 m') c s) := by
 obtain ⟨w, hw1, hw2⟩ : ∃ w : Nat, c.Width = w ∧ (w = 1 ∨ w = 4) := by
  rcases hw with h | h
  ·exact ⟨1, h, .inl rfl⟩
  ·exact ⟨4, h, .inr rfl⟩
 have hg := Q12 m'
 simp only [V9, hw1, Q6, Y6, Q2c, Wb, Wy, Int.toNat_natCast, List.drop_zero]
 unfold Q9j
 rw [hw1, Int.toNat_natCast]
 by_cases hl : s.length < w
 ·rw [if_pos (by omega), if_pos hl]; rfl
 rw [if_neg (by omega), if_neg hl, if_pos (by simp), if_pos (by simp [Nat.ble_eq]; omega), Qfz N (s.take w) (by rw [List.length_take]; omega) (by omega)]
 simp only [Option.bind_some]
 have hlt := Q2g (s.take w)
 have h4 : 256 ^ (s.take w).length ≤ 256 ^ 4 := Nat.pow_le_pow_right (by omega) (by rw [List.length_take]; omega)
 have h5 : (256 : Nat) ^ 4 = 4294967296 := rfl
 generalize hn : Q0o (s.take w) = n at *
 rw [show IntKind.i64.wrap ((s.length : Int) - (w : Int)) = ((s.length - w : Nat) : Int) by rw [Qh _ (by omega)]; omega, Q8x _ (by omega)]
 by_cases h6 : s.length - w < n
 ·rw [if_pos (by omega), if_pos h6]; rfl
 have e1 : IntKind.i64.wrap ((w : Int) + IntKind.i64.wrap (n : Int)) = ((w + n : Nat) : Int) := by
  rw [Qh (n : Int) (by omega), Qh _ (by omega)]; push_cast; rfl
 rw [if_neg (by omega), if_neg h6]
 simp only [e1, Int.toNat_natCast]
 rw [if_pos (by simp; omega), if_pos (by simp [Nat.ble_eq]; omega)]
 have e2 : (s.take (w + n)).drop w = (s.drop w).take n := by rw [List.drop_take]; congr 1; omega
 simp only [e2]
 have hbl : ((s.drop w).take n).length = n := by rw [List.length_take, List.length_drop]; omega
 generalize hbody : (s.drop w).take n = body at *
 simp only [List.take_length]
 unfold Qua
 by_cases h7 : body.length < w
 ·rw [if_pos (by omega), if_pos h7]; rfl
 rw [if_neg (by omega), if_neg h7, if_pos (by simp [Nat.ble_eq]; omega), Qfz N (body.take w) (by rw [List.length_take]; omega) (by omega)]
 simp only [Option.bind_some]
 rw [if_pos (by simp [Nat.ble_eq]; omega)]
 generalize hcnt : Q0o (body.take w) = cnt at *
 by_cases h8 : 1000 < cnt
 ·rw [if_pos (by omega), if_pos h8]; rfl
 rw [if_neg (by omega), if_neg h8]
 simp only [Qz8]
 have hdl : (body.drop w).length ≤ 300000 := by rw [List.length_drop]; omega
 by_cases h23 : c.Kind = 23
 ·rw [if_pos h23]
  by_cases h9 : cnt % 2 ≠ 0
  ·rw [if_pos h9, if_pos ⟨h23, h9⟩]; rfl
  ·rw [if_neg h9, if_neg (show ¬ (c.Kind = 23 ∧ cnt % 2 ≠ 0) from fun h => h9 h.2), if_neg (by omega), if_neg (show ¬ c.Kind = 24 by omega)]
   have := Qcf (Lp := V8 R4 N c ((m + 1 : Nat) : Int) (n : Int) (cnt : Int)) (nx := fun body => R4 (-1) body (IntKind.i64.wrap (((m + 1 : Nat) : Int) - 1))) (v11 := (cnt : Int)) (k := c.Kind) (num := 0) (cnt := cnt) (tot := w + n) (rd := Zf (X7 m')) (fun _ _ _ _ => rfl) rfl (by omega) (fun s hs => by rw [Qh _ (by omega)]; exact h1 s hs) (Q10 hg).1 (fun s hs he => Qjt m' s hs he) (fun body l hf hz => by
    have := Qt3 (N := N) (body := body) (l := l) (tot := w + n) hf hz hN rfl
    rw [h23, hw1, e1]; exact this) N 0 (body.drop w) [] (by omega) (by omega) hdl rfl (by simp) (by simp [Q0.szs])
   rw [Nat.sub_zero] at this
   exact this
 ·rw [if_neg h23, if_neg (show ¬ (c.Kind = 23 ∧ cnt % 2 ≠ 0) from fun h => h23 h.1)]
  by_cases h24 : c.Kind = 24
  ·rw [if_pos h24, if_pos h24]
   cases hd : body.drop w with
   | nil => rfl
   | cons b t =>
    rw [if_neg (by simp [Q3q]), show idx (b :: t) 0 = some b from rfl]
    simp only [Option.bind_some, Qzm, Qo3]
    rw [Q4b N _ (by omega)]
    simp only [Option.bind_some]
    cases ho : ofB (b.toNat : Int) with
    | false => rw [if_pos (by rfl), if_pos (.inl rfl)]; rfl
    | true =>
     rw [if_neg (by simp)]
     by_cases hb0 : b.toNat = 0
     ·rw [if_pos (by omega), if_pos (.inr hb0)]; rfl
     ·rw [if_neg (show ¬ ((b.toNat : Int) = 0) by omega), if_neg (show ¬ (true = false ∨ b.toNat = 0) by simp [hb0]), if_pos (show (Nat.ble 1 (b :: t).length && Nat.ble (b :: t).length (b :: t).length) = true by simp [Nat.ble_eq])]
      have hkb := (Qej _ ho).kind
      have htl : t.length ≤ 300000 := by
       have := congrArg List.length hd
       rw [List.length_drop, List.length_cons] at this; omega
      have := Qcf (Lp := Vc R4 N c ((m + 1 : Nat) : Int) (n : Int) (cnt : Int) b (ofS (b.toNat : Int), true)) (nx := fun body => R4 (IntKind.i64.wrap (b.toNat : Int)) body (IntKind.i64.wrap (((m + 1 : Nat) : Int) - 1))) (v11 := (cnt : Int)) (k := c.Kind) (num := (ofS (b.toNat : Int)).Kind) (cnt := cnt) (tot := w + n) (rd := X7 m' (b.toNat : Int)) (fun _ _ _ _ => rfl) rfl (by omega) (fun s hs => by rw [Qo3, Qh _ (by omega)]; exact h2 _ s (by omega) hs) (hg _) (fun s hs he => Qsd m' _ s hs he) (fun body l hf hz => by
       have := Qmn (body := body) (l := l) (k := c.Kind) (num := (ofS (b.toNat : Int)).Kind) (tot := w + n) h23 (a := ((w + n : Nat) : Int)) rfl
       rw [hw1, e1, show IntKind.u64.wrap (ofS (b.toNat : Int)).Kind = (ofS (b.toNat : Int)).Kind by rw [Q9u]; omega]; exact this) N 0 t [] (by omega) (by omega) htl rfl (by simp) (by simp [Q0.szs])
      rw [Nat.sub_zero] at this
      simp only [List.drop_succ_cons, List.drop_zero]
      exact this
  ·rw [if_neg h24, if_neg h24]
   have := Qcf (Lp := Va R4 N c ((m + 1 : Nat) : Int) (n : Int) (cnt : Int)) (nx := fun body => R4 (-1) body (IntKind.i64.wrap (((m + 1 : Nat) : Int) - 1))) (v11 := (cnt : Int)) (k := c.Kind) (num := 0) (cnt := cnt) (tot := w + n) (rd := Zf (X7 m')) (fun _ _ _ _ => rfl) rfl (by omega) (fun s hs => by rw [Qh _ (by omega)]; exact h1 s hs) (Q10 hg).1 (fun s hs he => Qjt m' s hs he) (fun body l hf hz => by
    have := Qmn (body := body) (l := l) (k := c.Kind) (num := 0) (tot := w + n) h23 (a := ((w + n : Nat) : Int)) rfl
    rw [hw1, e1]; exact this) N 0 (body.drop w) [] (by omega) (by omega) hdl rfl (by simp) (by simp [Q0.szs])
   rw [Nat.sub_zero] at this
   exact this
theorem Qmz {m N : Nat} {s : List UInt8} (hm : m ≤ 32) (hs : s.length ≤ 300000) (h : ∀ code t, t.length ≤ s.length → X3 N code t (m : Int) = some (X7 m code t)) : Zh (N + 1) s (m : Int) = some (Zf (X7 m) s) := by
 show J4 (Zh N) (X3 N) (V4 N) (Vl N) N s (m : Int) = _
 simp only [J4, Q6, Y6, Q2c, Wy]
 rw [if_neg (by omega), if_neg (by omega)]
 cases s with
 | nil => rfl
 | cons b t =>
  rw [if_neg (by simp [Q3q]), show idx (b :: t) 0 = some b from rfl]
  simp only [Option.bind_some]
  rw [if_pos (by simp [Nat.ble_eq]), List.take_length, Qo3]
  simp only [List.drop_succ_cons, List.drop_zero]
  rw [h _ t (by simp)]
  simp only [Option.bind_some, Zf]
  by_cases he : (X7 m (b.toNat : Int) t).2.2 = 0
  ·rw [if_neg (by simp [he]), if_neg (by simp [he])]
   obtain ⟨g1, g2, g3⟩ := Q12 m (b.toNat : Int) t (by simp at hs; omega) he
   rw [Qh _ (by simp at hs; omega)]
  ·rw [if_pos he, if_pos he]; rfl
theorem Qtc : ∀ m : Nat, m ≤ 32 → ∀ N : Nat, 700000100 + 5 * m < N → ∀ (code : Int) (s : List UInt8), s.length ≤ 300000 → X3 N code s (m : Int) = some (X7 m code s) := by
 intro m
 induction m with
 | zero =>
  intro hm N hN code s hs
  obtain ⟨N, rfl⟩ : ∃ K, N = K + 1 := ⟨N - 1, by omega⟩
  show W8 (Zh N) (X3 N) (V4 N) (Vl N) N code s ((0 : Nat) : Int) = _
  simp only [W8, Q6, Y6, Q2c, Wb, Wy, Q4b N code (by omega), Option.bind_some, X7]
  rw [if_neg (by omega), if_neg (by omega)]
  cases h1 : ofB code with
  | false => rfl
  | true =>
   simp only [Bool.not_true, Bool.false_eq_true, if_false, Bool.true_eq_false]
   cases h2 : (ofS code).Items with
   | false =>
    simp only [Bool.not_false, if_true]
    rw [Qix N code s (by omega) (by omega) (by omega)]; rfl
   | true => rfl
 | succ m ih =>
  intro hm N hN code s hs
  obtain ⟨N, rfl⟩ : ∃ K, N = K + 5 := ⟨N - 5, by omega⟩
  show W8 (Zh (N + 4)) (X3 (N + 4)) (V4 (N + 4)) (Vl (N + 4)) (N + 4) code s ((m + 1 : Nat) : Int) = _
  simp only [W8, Q6, Y6, Q2c, Wb, Wy, Q4b (N + 4) code (by omega), Option.bind_some, X7, Qh (((m + 1 : Nat) : Int) - 1) (show _ by omega)]
  rw [if_neg (by omega), if_neg (by omega)]
  cases h1 : ofB code with
  | false => rfl
  | true =>
   simp only [Bool.not_true, Bool.false_eq_true, if_false, Bool.true_eq_false]
   cases h2 : (ofS code).Items with
   | false =>
    simp only [Bool.not_false, if_true]
    rw [Qix (N + 4) code s (by omega) (by omega) (by omega)]; rfl
   | true =>
    simp only [Bool.not_true, Bool.false_eq_true, if_false, Bool.true_eq_false]
    rw [if_neg (show ¬ (((m + 1 : Nat) : Int) = 0) by omega)]
    have em : (((m + 1 : Nat) : Int) - 1) = (m : Int) := by omega
    have hR : ∀ K, N + 1 ≤ K → ∀ t : List UInt8, t.length ≤ 300000 → Zh K t (m : Int) = some (Zf (X7 m) t) := fun K hK t ht => by
     obtain ⟨K, rfl⟩ : ∃ J, K = J + 1 := ⟨K - 1, by omega⟩
     exact Qmz (by omega) ht (fun code u hu => ih (by omega) K (by omega) code u (by omega))
    cases h4 : (ofS code).Sized with
    | true =>
     have hsh := (Jq h1 h2).1 h4
     rw [if_pos rfl, if_neg (show ¬ (ofS code).Kind = 25 by omega)]
     simp only [Bool.true_eq_false, if_false]
     show (V9 (Zh (N + 3)) (X3 (N + 3)) (V4 (N + 3)) (Vl (N + 3)) (N + 3) (ofS code) s ((m + 1 : Nat) : Int)).bind _ = _
     rw [Qrc (m := m) (m' := m) (c := ofS code) (by omega) hm hs hsh.1 hsh.2 (fun t ht => by
      rw [em]
      show We (Zh (N + 2)) (X3 (N + 2)) (V4 (N + 2)) (Vl (N + 2)) (N + 2) (-1) t (m : Int) = _
      simp only [We, Q6, Y6]
      rw [if_pos (by decide), hR (N + 2) (by omega) t ht]; rfl) (fun code t hc ht => by
      rw [em]
      show We (Zh (N + 2)) (X3 (N + 2)) (V4 (N + 2)) (Vl (N + 2)) (N + 2) code t (m : Int) = _
      simp only [We, Q6, Y6]
      rw [if_neg (by omega), ih (by omega) (N + 2) (by omega) code t ht]; rfl)]; rfl
    | false =>
     have hsh := (Jq h1 h2).2 h4
     simp only [Bool.false_eq_true, if_false, if_true]
     by_cases h22 : (ofS code).Kind = 22
     ·rw [if_pos h22, if_neg (show ¬ (ofS code).Kind = 25 by omega), h22]
     ·rw [if_neg h22, if_pos (show (ofS code).Kind = 25 by omega), em, hR (N + 4) (by omega) s hs]
      have hgr := (Q10 (Q12 m)).1
      simp only [Option.bind_some]
      unfold Qof
      rw [Jl]
      have hg1 := hgr s (by omega)
      generalize hr : Zf (X7 m) s = r at hg1 ⊢
      obtain ⟨x, n, e⟩ := r
      simp only [] at hg1 ⊢
      by_cases he : e = 0
      ·subst he
       obtain ⟨g1, g2, g3⟩ := hg1 rfl
       obtain ⟨n, rfl⟩ := Int.eq_ofNat_of_zero_le g1
       simp only [Int.toNat_natCast, List.take_length]
       rw [if_neg (by simp), if_pos (by simp), if_pos (by simp [Nat.ble_eq]; omega), hR (N + 4) (by omega) (s.drop n) (by rw [List.length_drop]; omega)]
       simp only [Option.bind_some]
       rw [if_neg (show ¬ ((0 : Int) ≠ 0) by simp), Jl]
       have hg2 := hgr (s.drop n) (by rw [List.length_drop]; omega)
       generalize hr2 : Zf (X7 m) (s.drop n) = r2 at hg2 ⊢
       obtain ⟨x2, n2, e2⟩ := r2
       simp only [] at hg2 ⊢
       by_cases he2 : e2 = 0
       ·subst he2
        obtain ⟨q1, q2, q3⟩ := hg2 rfl
        obtain ⟨n2, rfl⟩ := Int.eq_ofNat_of_zero_le q1
        rw [List.length_drop] at q2
        rw [if_neg (by simp), if_neg (show ¬ ((0 : Int) ≠ 0) by simp), Jl]
        simp only []
        rw [if_neg (by simp), Qh _ (by omega)]
        simp only [Int.toNat_natCast, List.length_drop, List.nil_append, List.cons_append]
        congr 3
        omega
       ·rw [if_pos he2, if_pos (show e2 ≠ 0 from he2)]
        simp only []
        rw [if_pos (show e2 ≠ 0 from he2)]; rfl
      ·rw [if_pos he, if_pos (show e ≠ 0 from he)]
       simp only []
       rw [if_pos (show e ≠ 0 from he)]; rfl
theorem Qph (m N : Nat) (s : List UInt8) (hm : m ≤ 32) (hN : 700000200 + 5 * m < N) (hs : s.length ≤ 300000) : Zh N s (m : Int) = some (Zf (X7 m) s) := by
 obtain ⟨N, rfl⟩ : ∃ K, N = K + 1 := ⟨N - 1, by omega⟩
 exact Qmz hm hs (fun code t ht => Qtc m hm N (by omega) code t (by omega))
end
end Go.Av
namespace Go.Av
noncomputable section
open Go.Proofs
set_option maxRecDepth 100000
end
end Go.Av
namespace Go.Av
noncomputable section
open Go.Proofs
set_option maxRecDepth 100000
def Q6i (code : Int) (v : Q0) (b : List UInt8) : Bool :=
 if (ofS code).Items = false then Q34 code v else if (ofS code).Width = 0 then decide (v.Items.length = 0)
 else decide ((ofS code).Width = 4 ∨ (v.Items.length < 256 ∧ b.length + 1 < 256))
def Vu (code : Int) (v : Q0) (b : List UInt8) : List UInt8 :=
 if (ofS code).Items = false then (Qsw code v).1 else if (ofS code).Sized = false then []
 else Q05 (b.length + (ofS code).Width.toNat) (ofS code).Width.toNat ++ (Q05 v.Items.length (ofS code).Width.toNat ++ b)
def Qo6 (c : Int) (l : List (Q0 × List UInt8)) : Bool := l.all fun p => Q6i c p.1 p.2
def Q3l (k : Int) (l : List (Q0 × List UInt8)) : Int := ((Ju k).find? (fun c => Qo6 c l)).getD 0
def Q3z (c : Int) : UInt8 := UInt8.ofNat c.toNat
def Z2c (n : Int) (l : List (Q0 × List UInt8)) : List UInt8 := Q3z (Q3l n l) :: (l.map fun p => Vu (Q3l n l) p.1 p.2).flatten
def Z0j (k n : Int) (is : List Q0) (l : List (List UInt8 × List UInt8)) : List UInt8 := if k = 24 then Z2c n (is.zip (l.map (·.1))) else if k = 25 then [] else (l.map (·.2)).flatten
def Z20 (v : Q0) (b : List UInt8) (l : List (List UInt8 × List UInt8)) : List UInt8 := if v.Kind = 25 then 0 :: (l.map (·.2)).flatten else Q3z (Q3l v.Kind [(v, b)]) :: Vu (Q3l v.Kind [(v, b)]) v b
mutual
def Q0.enc : Q0 → List UInt8 × List UInt8
 | .mk k n t is => (Z0j k n is (Q0.encs is), Z20 ⟨k, n, t, is⟩ (Z0j k n is (Q0.encs is)) (Q0.encs is))
def Q0.encs : List Q0 → List (List UInt8 × List UInt8)
 | [] => []
 | v :: l => v.enc :: Q0.encs l
end
def Q0.inn (v : Q0) : List UInt8 := v.enc.1
def Q0.byt (v : Q0) : List UInt8 := v.enc.2
theorem Qlm : ∀ l, Q0.encs l = l.map Q0.enc
 | [] => rfl
 | v :: l => by rw [Q0.encs, Qlm l]; rfl
def Q0.prs (v : Q0) : List (Q0 × List UInt8) := v.Items.map fun x => (x, x.inn)
def Q0.elm (v : Q0) : Int := Q3l v.N' v.prs
def Q0.cod (v : Q0) : Int := Q3l v.Kind [(v, v.inn)]
theorem Qwg (l : List Q0) : l.zip ((l.map Q0.enc).map (·.1)) = l.map fun x => (x, x.inn) := by
 induction l with
 | nil => rfl
 | cons x l ih => simp only [List.map_cons, List.zip_cons_cons, ih]; rfl
theorem Qd9 (v : Q0) : v.inn = if v.Kind = 24 then Q3z v.elm :: (v.Items.map fun x => Vu v.elm x x.inn).flatten else if v.Kind = 25 then [] else (v.Items.map Q0.byt).flatten := by
 obtain ⟨k, n, t, is⟩ := v
 unfold Q0.inn
 rw [Q0.enc, Qlm]
 simp only [Z0j, Qwg, Q0.elm, Q0.prs, Z2c]
 simp only [List.map_map]
 rfl
theorem Qnx (v : Q0) : v.byt = if v.Kind = 25 then 0 :: (v.Items.map Q0.byt).flatten else Q3z v.cod :: Vu v.cod v v.inn := by
 obtain ⟨k, n, t, is⟩ := v
 unfold Q0.byt Q0.cod Q0.inn
 rw [Q0.enc, Qlm]
 simp only [Z20, List.map_map]
 rfl
theorem Qnm {k : Int} {l : List (Q0 × List UInt8)} (h : ∃ c ∈ Ju k, Qo6 c l = true) : Q3l k l ∈ Ju k ∧ Qo6 (Q3l k l) l = true := by
 unfold Q3l
 cases hf : (Ju k).find? (fun c => Qo6 c l) with
 | some c => exact ⟨List.mem_of_find?_eq_some hf, by simpa using List.find?_some hf⟩
 | none =>
  obtain ⟨c, h1, h2⟩ := h
  have := List.find?_eq_none.1 hf c h1
  exact absurd h2 this
def Q33 (k : Int) : Int := (Ju k).getLastD 0
def Qrp (k : Nat) : Bool := !(decide (1 ≤ k)) || ((Ju k).contains (Q33 k) && ((k == 25) || (if (ofS (Q33 k)).Items then decide ((ofS (Q33 k)).Width = 4) && (ofS (Q33 k)).Sized else if (ofS (Q33 k)).Sized then decide ((ofS (Q33 k)).Width = 4) else decide ((ofS (Q33 k)).Code ≠ 65) && (decide ((ofS (Q33 k)).Width = 0 ∧ (Gj k).1 = 0 ∧ (Gj k).2 = false) || (decide ((ofS (Q33 k)).Width = 1) && decide (8 = (Gj k).1 ∨ (Gj k).1 = 1 ∧ (Gj k).2 = false)) || decide (1 < (ofS (Q33 k)).Width)))))
theorem Qsg : ((List.range 26).all Qrp) = true := by decide +kernel
theorem Qdi {k : Int} (h : 1 ≤ k ∧ k ≤ 25) : Qrp k.toNat = true := List.all_eq_true.1 Qsg k.toNat (by simp; omega)
theorem Qst {v : Q0} (hn : okU v.N') (h : Vx v = 0) : Q33 v.Kind ∈ Ju v.Kind ∧ Q34 (Q33 v.Kind) v = true := by
 obtain ⟨c1, c2, c3, c4, c5, c6, c7⟩ := Gd h
 have hb := Qdi (k := v.Kind) (by omega)
 unfold Qrp at hb
 rw [show ((v.Kind.toNat : Nat) : Int) = v.Kind by omega] at hb
 simp only [Bool.or_eq_true, Bool.not_eq_true', decide_eq_false_iff_not, Bool.and_eq_true, List.contains_iff_mem, beq_iff_eq] at hb
 rcases hb with hb | ⟨hm, hb⟩
 ·omega
 ·refine ⟨hm, ?_⟩
  obtain ⟨d1, d2, d3⟩ := Q4n _ _ hm
  have hw := Qej _ d1
  have hi := Q13 hw (by omega)
  rcases hb with hb | hb
  ·omega
  rw [hi] at hb
  simp only [Bool.false_eq_true, if_false] at hb
  have hs : Q6w (ofS (Q33 v.Kind)) v = true := by
   unfold Q6w
   by_cases hz : (ofS (Q33 v.Kind)).Sized = true
   ·rw [if_pos hz] at hb
    have h4 : (ofS (Q33 v.Kind)).Width = 4 := by simpa using hb
    obtain ⟨_, _, _, h65⟩ := hw.sized hi hz
    rw [if_neg h65, if_pos hz]
    simp [h4]
   ·rw [if_neg hz] at hb
    simp only [Bool.and_eq_true, Bool.or_eq_true, decide_eq_true_eq] at hb
    obtain ⟨h65, hb⟩ := hb
    rw [if_neg h65, if_neg hz]
    have hnum := c3
    unfold Q8p at hnum
    simp only [Bool.and_eq_true] at hnum
    have hf := hnum.1
    rcases hb with (⟨w0, b0, b1⟩ | ⟨w1, hb⟩) | w2
    ·rw [if_pos w0]
     rw [b0, b1] at hf
     unfold Q1p at hf
     simp at hf ⊢
     have := hn.1
     omega
    ·rw [if_neg (by omega), if_pos w1, d3]
     rcases hb with hb | ⟨b1, b2⟩
     ·rw [← hb] at hf; exact hf
     ·rw [b1, b2] at hf
      rw [b2]
      unfold Q1p at hf ⊢
      simp at hf ⊢
      omega
    ·rw [if_neg (by omega), if_neg (by omega)]
  unfold Q34
  simp [d1, d3, h, hs]
end
end Go.Av
namespace Go.Av
noncomputable section
open Go.Proofs
set_option maxRecDepth 100000
theorem Qdn : ∀ (l : List Q0) (k n m e : Int), Q1d l k n m e = 0 → e = 0 ∧ ∀ x ∈ l, Xv x m = 0 ∧ (k = 24 → IntKind.u64.wrap x.Kind = n)
 | [], _, _, _, _, h => ⟨by simpa [Q1d] using h, fun x hx => by cases hx⟩
 | x :: l, k, n, m, e, h => by
  rw [Q1d] at h
  split at h
  ·cases h
  ·rename_i h1
   split at h
   ·rename_i h2; exact absurd h h2
   ·rename_i h2
    obtain ⟨i1, i2⟩ := Qdn l k n m e h
    refine ⟨i1, fun y hy => ?_⟩
    rcases List.mem_cons.1 hy with rfl | hy
    ·exact ⟨Classical.byContradiction h2, fun hk => Classical.byContradiction fun hn => h1 ⟨hk, hn⟩⟩
    ·exact i2 y hy
theorem Q39 {v : Q0} (h : Q1e v = true) : v.Text = [] ∧ (v.Kind = 24 → 1 ≤ v.N' ∧ v.N' ≤ 24) ∧ (v.Kind ≠ 24 → v.N' = 0) ∧ (v.Kind = 25 → v.Items.length = 2) ∧ (v.Kind = 23 → v.Items.length % 2 = 0) := by
 unfold Q1e Q98 at h
 simp only [Q6, G4, Wb, Wy, Qcc, Qn] at h
 split at h
 ·cases h
 ·rename_i h1
  have h1 : v.Text = [] := by simpa using h1
  refine ⟨h1, ?_⟩
  split at h
  ·rename_i h2
   split at h
   ·rename_i h3
    have h4 : v.N' ≤ 24 := by
     have : Q5 .leq v.N' 24 = true := by simpa using h
     rw [Q75] at this; exact this
    exact ⟨fun _ => ⟨h3, h4⟩, fun h => absurd h2 h, fun h => by omega, fun h => by omega⟩
   ·cases h
  ·rename_i h2
   split at h
   ·cases h
   ·rename_i h3
    have h3 : v.N' = 0 := by simpa using h3
    refine ⟨fun h => absurd h h2, fun _ => h3, ?_, ?_⟩
    ·intro h5
     rw [if_pos h5] at h
     have : Q5 .eql (v.Items.length : Int) 2 = true := by simpa using h
     rw [Wb] at this; omega
    ·intro h5
     rw [if_neg (by omega), if_pos h5] at h
     have : Q5 .eql ((v.Items.length : Int).tmod 2) 0 = true := by simpa using h
     rw [Wb, Int.tmod_eq_emod_of_nonneg (by omega)] at this; omega
theorem Gz {v : Q0} {m : Int} (h : Xv v m = 0) : (1 ≤ v.Kind ∧ v.Kind ≤ 21 ∧ Vx v = 0) ∨
  (22 ≤ v.Kind ∧ v.Kind ≤ 25 ∧ m ≠ 0 ∧ Q1e v = true ∧ v.Items.length ≤ 1000 ∧ Q3d v = 0 ∧ ∀ x ∈ v.Items, Xv x (m - 1) = 0 ∧ (v.Kind = 24 → IntKind.u64.wrap x.Kind = v.N')) := by
 rw [Q40] at h
 split at h
 ·cases h
 ·split at h
  ·cases h
  ·split at h
   ·exact .inl ⟨by omega, by omega, h⟩
   ·split at h
    ·cases h
    ·split at h
     ·cases h
     ·rename_i hs
      split at h
      ·cases h
      ·obtain ⟨h1, h2⟩ := Qdn _ _ _ _ _ h
       exact .inr ⟨by omega, by omega, by assumption, by simpa using hs, by omega, h1, h2⟩
theorem Q89 {v : Q0} {m : Int} (h : Xv v m = 0) : 1 ≤ v.Kind ∧ v.Kind ≤ 25 := by
 rcases Gz h with ⟨h1, h2, _⟩ | ⟨h1, h2, _⟩ <;> omega
theorem Q7n {v : Q0} {m : Int} (h : Xv v m = 0) : IntKind.u64.wrap v.Kind = v.Kind := by
 have := Q89 h
 rw [Q9u]; omega
theorem Qp8 {k : Int} (h : 22 ≤ k ∧ k ≤ 24) : Q33 k ∈ Ju k ∧ (ofS (Q33 k)).Items = true ∧ (ofS (Q33 k)).Width = 4 := by
 have hb := Qdi (k := k) (by omega)
 unfold Qrp at hb
 rw [show ((k.toNat : Nat) : Int) = k by omega] at hb
 simp only [Bool.or_eq_true, Bool.not_eq_true', decide_eq_false_iff_not, Bool.and_eq_true, List.contains_iff_mem, beq_iff_eq] at hb
 rcases hb with hb | ⟨hm, hb⟩
 ·omega
 ·obtain ⟨d1, d2, d3⟩ := Q4n _ _ hm
  have hi : (ofS (Q33 k)).Items = true := by rw [(Qej _ d1).items, d3]; simp; omega
  rcases hb with hb | hb
  ·omega
  ·rw [if_pos hi] at hb
   simp only [Bool.and_eq_true, decide_eq_true_eq] at hb
   exact ⟨hm, hi, hb.1⟩
theorem Qkd {v : Q0} {m : Int} (hf : Fine v) (h : Xv v m = 0) (hk : v.Kind ≠ 25) (b : List UInt8) : Q33 v.Kind ∈ Ju v.Kind ∧ Q6i (Q33 v.Kind) v b = true := by
 rcases Gz h with ⟨h1, h2, h3⟩ | ⟨h1, h2, _⟩
 ·obtain ⟨g1, g2⟩ := Qst hf.num h3
  obtain ⟨f1, f2, _⟩ := Q3h g2
  refine ⟨g1, ?_⟩
  unfold Q6i
  rw [if_pos (Q13 (Qej _ f1) (by omega))]; exact g2
 ·obtain ⟨g1, g2, g3⟩ := Qp8 (k := v.Kind) (by omega)
  refine ⟨g1, ?_⟩
  unfold Q6i
  rw [if_neg (by simp [g2]), if_neg (by omega)]
  simp [g3]
theorem Qqq {v : Q0} {m : Int} (hf : Fine v) (h : Xv v m = 0) (hk : v.Kind = 24) : v.elm ∈ Ju v.N' ∧ ∀ x ∈ v.Items, Q6i v.elm x x.inn = true := by
 rcases Gz h with ⟨h1, h2, h3⟩ | ⟨h1, h2, h3, h4, h5, h6, h7⟩
 ·omega
 obtain ⟨s1, s2, s3, s4, s5⟩ := Q39 h4
 have hn := s2 hk
 have hkx : ∀ x ∈ v.Items, x.Kind = v.N' := fun x hx => by
  have := (h7 x hx).2 hk
  rw [Q7n (h7 x hx).1] at this; exact this
 have hlast : Q33 v.N' ∈ Ju v.N' := by
  have hb := Qdi (k := v.N') (by omega)
  unfold Qrp at hb
  rw [show ((v.N'.toNat : Nat) : Int) = v.N' by omega] at hb
  simp only [Bool.or_eq_true, Bool.not_eq_true', decide_eq_false_iff_not, Bool.and_eq_true, List.contains_iff_mem] at hb
  rcases hb with hb | ⟨hm, _⟩
  ·omega
  ·exact hm
 obtain ⟨g1, g2⟩ := Qnm (k := v.N') (l := v.prs) ⟨Q33 v.N', hlast, by
  unfold Qo6 Q0.prs
  rw [List.all_map, List.all_eq_true]
  intro x hx
  have hkk := hkx x hx
  have := (Qkd (hf.items x hx) (h7 x hx).1 (by omega) x.inn).2
  rw [hkk] at this
  exact this⟩
 refine ⟨g1, fun x hx => ?_⟩
 have := List.all_eq_true.1 g2 (x, x.inn) (by unfold Q0.prs; exact List.mem_map.2 ⟨x, hx, rfl⟩)
 exact this
theorem Qmk {v : Q0} {m : Int} (hf : Fine v) (h : Xv v m = 0) (hk : v.Kind ≠ 25) : v.cod ∈ Ju v.Kind ∧ Q6i v.cod v v.inn = true := by
 obtain ⟨l1, l2⟩ := Qkd hf h hk v.inn
 obtain ⟨g1, g2⟩ := Qnm (k := v.Kind) (l := [(v, v.inn)]) ⟨Q33 v.Kind, l1, by simp [Qo6, l2]⟩
 exact ⟨g1, by unfold Q0.cod; simpa [Qo6] using g2⟩
mutual
def Q0.wgt : Q0 → Nat
 | .mk _ _ t is => t.length + 30 + Q0.wgts is
def Q0.wgts : List Q0 → Nat
 | [] => 0
 | v :: l => v.wgt + Q0.wgts l
end
theorem Q0.wgt_eq (v : Q0) : v.wgt = v.Text.length + 30 + Q0.wgts v.Items := by cases v; simp only [Q0.wgt]
theorem Qi4 : ∀ (l : List Q0), ∀ x ∈ l, x.wgt ≤ Q0.wgts l
 | v :: l, x, hx => by
  simp only [Q0.wgts]
  rcases List.mem_cons.1 hx with rfl | hx
  ·omega
  ·have := Qi4 l x hx; omega
theorem Qnh (code : Int) : 0 ≤ (ofS code).Width ∧ (ofS code).Width.toNat ≤ 16 := by
 cases h : ofB code with
 | false => rw [Qha code h]; decide
 | true =>
  have hw := Qej code h
  cases hi : (ofS code).Items with
  | false =>
   cases hw.shape hi with
   | sized w hs hw' h12 hk2 hc => rw [hw']; omega
   | wide hs hw' hk2 hc => rw [hw']; decide
   | num w hs hw' hh ht hc hbb => rw [hw']; omega
  | true =>
   obtain ⟨h1, h2⟩ := Jq h hi
   cases hs : (ofS code).Sized with
   | true => have := (h1 hs).1; omega
   | false =>
    have : (ofS code).Width = 0 := (Qn4 (P := fun t => t.2.2.2.2 = true → t.2.2.2.1 = false → t.2.2.1 = 0) (B := fun k => !(Uk k).2.2.2.2 || ((Uk k).2.2.2.1 || decide ((Uk k).2.2.1 = 0))) (by decide +kernel) (fun k hk h1 h2 => by simpa [h1, h2] using hk) h) hi hs
    omega
theorem Qxh (code : Int) (v : Q0) : (Qsw code v).1.length ≤ v.Text.length + 16 := by
 unfold Qsw
 split
 ·simp
 ·split
  ·simp
  ·rename_i hf
   have hf : Q34 code v = true := by simpa using hf
   have := Q8a hf
   have := Qnh code
   simp only []
   split at * <;> omega
theorem Qs7 (code : Int) (v : Q0) (b : List UInt8) : (Vu code v b).length ≤ v.Text.length + 16 + b.length := by
 unfold Vu
 split
 ·have := Qxh code v; omega
 ·rename_i hi
  have hi : (ofS code).Items = true := by simpa using hi
  split
  ·simp
  ·rename_i hs
   have hs : (ofS code).Sized = true := by simpa using hs
   have hw : (ofS code).Width.toNat ≤ 4 := by
    cases h : ofB code with
    | false => rw [Qha code h]; decide
    | true => have := (Jq h hi).1 hs; omega
   simp [Yk]; omega
theorem Q3t (v : Q0) : v.inn.length ≤ 1 + Q0.wgts v.Items ∧ v.byt.length ≤ v.wgt ∧ ∀ c, (Vu c v v.inn).length + 1 ≤ v.wgt := by
 induction v using Q0.ind with
 | h v ih =>
  have s1 : ∀ (l : List Q0), (∀ x ∈ l, x.byt.length ≤ x.wgt) → (l.map Q0.byt).flatten.length ≤ Q0.wgts l := by
   intro l
   induction l with
   | nil => intro _; simp
   | cons x l ihl =>
    intro h
    have h1 := h x (.head _)
    have h2 := ihl (fun y hy => h y (.tail _ hy))
    simp only [List.map_cons, List.flatten_cons, List.length_append, Q0.wgts]; omega
  have s2 : ∀ (c : Int) (l : List Q0), (∀ x ∈ l, ∀ c, (Vu c x x.inn).length + 1 ≤ x.wgt) → (l.map fun x => Vu c x x.inn).flatten.length ≤ Q0.wgts l := by
   intro c l
   induction l with
   | nil => intro _; simp
   | cons x l ihl =>
    intro h
    have h1 := h x (.head _) c
    have h2 := ihl (fun y hy => h y (.tail _ hy))
    simp only [List.map_cons, List.flatten_cons, List.length_append, Q0.wgts]; omega
  have hin : v.inn.length ≤ 1 + Q0.wgts v.Items := by
   rw [Qd9]
   split
   ·have := s2 v.elm v.Items (fun x hx => (ih x hx).2.2)
    simp only [List.length_cons]; omega
   ·split
    ·simp
    ·have := s1 v.Items (fun x hx => (ih x hx).2.1)
     omega
  have hd : ∀ c, (Vu c v v.inn).length + 1 ≤ v.wgt := fun c => by
   have := Qs7 c v v.inn
   rw [v.wgt_eq]; omega
  refine ⟨hin, ?_, hd⟩
  rw [Qnx]
  split
  ·have := s1 v.Items (fun x hx => (ih x hx).2.1)
   rw [v.wgt_eq]; simp only [List.length_cons]; omega
  ·have := hd v.cod
   simp only [List.length_cons]; omega
end
end Go.Av
namespace Go.Av
noncomputable section
open Go.Proofs
set_option maxRecDepth 100000
theorem of0 : ofB 0 = true ∧ (ofS 0).Kind = 25 ∧ (ofS 0).Items = true := by decide +kernel
theorem Qrh {code : Int} (h : ofB code = true) (hi : (ofS code).Items = true) (hs : (ofS code).Sized = false) : (ofS code).Width = 0 :=
 (Qn4 (P := fun t => t.2.2.2.2 = true → t.2.2.2.1 = false → t.2.2.1 = 0) (B := fun k => !(Uk k).2.2.2.2 || ((Uk k).2.2.2.1 || decide ((Uk k).2.2.1 = 0))) (by decide +kernel) (fun k hk h1 h2 => by simpa [h1, h2] using hk) h) hi hs
theorem Qxg {v x : Q0} (hx : x ∈ v.Items) : x.wgt ≤ v.wgt := by
 have := Qi4 _ x hx
 rw [v.wgt_eq]; omega
end
end Go.Av
namespace Go.Av
noncomputable section
open Go.Proofs
set_option maxRecDepth 100000
def Q7g (v : Q0) : Int := if nnS v = true then (if v.Kind = 11 then 2143289344 else 9221120237041090560) else v.N'
mutual
def Q0.nrm : Q0 → Q0
 | .mk k n t is => ⟨k, Q7g ⟨k, n, t, is⟩, t, Q0.nrms is⟩
def Q0.nrms : List Q0 → List Q0
 | [] => []
 | v :: l => v.nrm :: Q0.nrms l
end
theorem Qr6 : ∀ l, Q0.nrms l = l.map Q0.nrm
 | [] => rfl
 | v :: l => by rw [Q0.nrms, Qr6 l]; rfl
theorem Qbm (v : Q0) : v.nrm = ⟨v.Kind, Q7g v, v.Text, v.Items.map Q0.nrm⟩ := by cases v; rw [Q0.nrm, Qr6]
theorem Q60 (v : Q0) : v.nrm.Kind = v.Kind := by rw [Qbm]
theorem Qci (v : Q0) : v.nrm.Text = v.Text := by rw [Qbm]
theorem Q2p (v : Q0) : v.nrm.Items = v.Items.map Q0.nrm := by rw [Qbm]
theorem Qd4 (v : Q0) : v.nrm.N' = Q7g v := by rw [Qbm]
theorem Z12 (x : Int) : Q5 .neq x 0 = decide (x ≠ 0) := by rw [Bool.eq_iff_iff, Wy]; simp
theorem Q8n (v : Q0) : nnS v = ((decide (v.Kind = 11) && (decide (Q2t .u64 (Q4e .u64 v.N' 23) 255 = 255) && decide (Q0d .u64 v.N' 41 ≠ 0))) || (decide (v.Kind = 12) && (decide (Q2t .u64 (Q4e .u64 v.N' 52) 2047 = 2047) && decide (Q0d .u64 v.N' 12 ≠ 0)))) := by
 have h := Qx4 0 v
 unfold Zo at h
 simp only [Q6, Wb] at h
 by_cases k1 : v.Kind = 11
 ·have k2 : ¬ v.Kind = 12 := by omega
  rw [if_pos k1] at h
  split at h
  ·rename_i h1
   simp only [Option.some.injEq] at h
   rw [← h]
   rw [Z12]
   simp [k1, h1]
  ·rename_i h1
   simp only [Option.some.injEq] at h
   rw [← h]
   simp [k1, h1]
 ·rw [if_neg k1] at h
  by_cases k2 : v.Kind = 12
  ·rw [if_pos k2] at h
   split at h
   ·rename_i h1
    simp only [Option.some.injEq] at h
    rw [← h]
    rw [Z12]
    simp [k2, h1]
   ·rename_i h1
    simp only [Option.some.injEq] at h
    rw [← h]
    simp [k2, h1]
  ·rw [if_neg k2] at h
   simp only [Option.some.injEq] at h
   rw [← h]
   simp [k1, k2]
theorem Qcw {v : Q0} (h : nnS v = true) : v.Kind = 11 ∨ v.Kind = 12 := by
 rw [Q8n] at h
 simp only [Bool.or_eq_true, Bool.and_eq_true, decide_eq_true_eq] at h
 omega
theorem Qeb {v w : Q0} (h1 : v.Kind = w.Kind) (h2 : v.N' = w.N') : nnS v = nnS w := by rw [Q8n, Q8n, h1, h2]
theorem Qh7 (k : Int) (t : List UInt8) (is : List Q0) (h : k = 11 ∨ k = 12) : nnS ⟨k, if k = 11 then 2143289344 else 9221120237041090560, t, is⟩ = true := by
 rcases h with rfl | rfl
 ·exact (Qeb (w := ⟨11, 2143289344, [], []⟩) rfl rfl).trans (by rw [Q8n]; decide)
 ·exact (Qeb (w := ⟨12, 9221120237041090560, [], []⟩) rfl rfl).trans (by rw [Q8n]; decide)
theorem Qs8 {v : Q0} (h : nnS v = true) : Q7g v = if v.Kind = 11 then 2143289344 else 9221120237041090560 := by unfold Q7g; rw [if_pos h]
theorem Qhv {v : Q0} (h : nnS v = false) : Q7g v = v.N' := by unfold Q7g; rw [if_neg (by simp [h])]
theorem Qyw (v : Q0) : nnS v.nrm = nnS v := by
 cases h : nnS v with
 | true =>
  have hk := Qcw h
  rw [Qbm]
  unfold Q7g
  rw [if_pos h]
  exact Qh7 _ _ _ hk
 | false =>
  rw [← h]
  refine Qeb (Q60 v) ?_
  rw [Qd4]
  unfold Q7g
  rw [if_neg (by simp [h])]
theorem Q8i (v : Q0) : v.nrm.sz = v.sz := by
 induction v using Q0.ind with
 | h v ih =>
  have hl : ∀ l : List Q0, (∀ x ∈ l, x.nrm.sz = x.sz) → Q0.szs (l.map Q0.nrm) = Q0.szs l := by
   intro l
   induction l with
   | nil => intro _; rfl
   | cons x l ihl => intro h; simp only [List.map_cons, Q0.szs, h x (.head _), ihl (fun y hy => h y (.tail _ hy))]
  rw [Q0.sz_eq, Q2p, hl _ ih, v.sz_eq]
theorem Qgm (v : Q0) : v.nrm.wgt = v.wgt := by
 induction v using Q0.ind with
 | h v ih =>
  have hl : ∀ l : List Q0, (∀ x ∈ l, x.nrm.wgt = x.wgt) → Q0.wgts (l.map Q0.nrm) = Q0.wgts l := by
   intro l
   induction l with
   | nil => intro _; rfl
   | cons x l ihl => intro h; simp only [List.map_cons, Q0.wgts, h x (.head _), ihl (fun y hy => h y (.tail _ hy))]
  rw [Q0.wgt_eq, Q2p, hl _ ih, v.wgt_eq, Qci]
theorem Qum {v : Q0} (h : okU v.N') : okU (Q7g v) := by
 unfold Q7g
 split
 ·split <;> exact ⟨by omega, by omega⟩
 ·exact h
theorem Qh9 {v : Q0} (h : Fine v) : Fine v.nrm := by
 induction v using Q0.ind with
 | h v ih =>
  refine .mk _ (by rw [Qd4]; exact Qum h.num) (by rw [Qci]; exact h.text) (fun x hx => ?_)
  rw [Q2p] at hx
  obtain ⟨y, hy, rfl⟩ := List.mem_map.1 hx
  exact ih y hy (h.items y hy)
theorem Qis {v : Q0} (h : v.Kind ≠ 11 ∧ v.Kind ≠ 12) : Q7g v = v.N' := by
 unfold Q7g
 rw [if_neg (fun hn => by have := Qcw hn; omega)]
theorem Qjn : ∀ (n : Nat) (a b : Q0), a.sz ≤ n → Q4f a.nrm b.nrm = true → Q4f a b = true
 | 0, a, b, h, _ => by have := a.sz_eq; omega
 | n + 1, a, b, h, hh => by
  have hs := a.sz_eq
  rw [Qd3] at hh ⊢
  simp only [Q60, Qci, Q2p, Qd4, Qyw, List.length_map, Bool.and_eq_true, Bool.or_eq_true, decide_eq_true_eq] at hh ⊢
  obtain ⟨h1, h2, h3, h4, h5⟩ := hh
  refine ⟨h1, h2, h3, ?_, ?_⟩
  ·rcases h4 with h4 | h4
   ·cases na : nnS a <;> cases nb : nnS b
    ·left; rw [Qhv na, Qhv nb] at h4; exact h4
    ·rw [Qhv na, Qs8 nb] at h4
     have hk := Qcw nb
     have : nnS a = true := by
      rw [← Qh7 a.Kind [] [] (by omega)]
      refine Qeb rfl ?_
      show a.N' = _
      rw [h4, h1]
     rw [na] at this; cases this
    ·rw [Qs8 na, Qhv nb] at h4
     have hk := Qcw na
     have : nnS b = true := by
      rw [← Qh7 b.Kind [] [] (by omega)]
      refine Qeb rfl ?_
      show b.N' = _
      rw [← h4, h1]
     rw [nb] at this; cases this
    ·right; exact ⟨rfl, rfl⟩
   ·right; exact h4
  ·have hl : ∀ (l m : List Q0), Q0.szs l ≤ n → Q3n (l.map Q0.nrm) (m.map Q0.nrm) = true → Q3n l m = true := by
    intro l
    induction l with
    | nil => intro m _ _; rfl
    | cons x l ihl =>
     intro m hz hm
     simp only [Q0.szs] at hz
     cases m with
     | nil => simp [Q3n] at hm
     | cons y m =>
      simp only [List.map_cons, Q3n, Bool.and_eq_true] at hm ⊢
      exact ⟨Qjn n x y (by omega) hm.1, ihl m (by omega) hm.2⟩
   exact hl _ _ (by omega) h5
theorem Qv2 {v : Q0} (h : Q3d v = 0) : Q3d v.nrm = 0 := by
 unfold Q3d at h ⊢
 rw [Q60]
 split
 ·rfl
 ·rename_i hk
  rw [if_neg hk] at h
  split at h
  ·cases h
  ·rename_i hne
   rw [if_neg]
   rintro ⟨i, j, h1, h2, h3, h4, h5, x, y, hx, hy, ha⟩
   rw [Q2p, List.length_map] at h3
   rw [Q2p, List.getElem?_map] at hx hy
   cases hxi : v.Items[i]? with
   | none => rw [hxi] at hx; cases hx
   | some x' =>
    cases hyi : v.Items[j]? with
    | none => rw [hyi] at hy; cases hy
    | some y' =>
     rw [hxi] at hx; rw [hyi] at hy
     cases hx; cases hy
     exact hne ⟨i, j, h1, h2, h3, h4, h5, x', y', hxi, hyi, Qjn _ x' y' (Nat.le_refl _) ha⟩
theorem Qqj {v : Q0} (h : Q8p v.Kind v.N' = true) : Q8p v.Kind (Q7g v) = true := by
 unfold Q7g
 split
 ·rename_i hn
  rcases Qcw hn with hk | hk <;> rw [hk] <;> decide
 ·exact h
theorem Qox {v : Q0} (h : Vx v = 0) : Vx v.nrm = 0 := by
 obtain ⟨c1, c2, c3, c4, c5, c6, c7⟩ := Gd h
 unfold Vx at h ⊢
 simp only [Q60, Qci, Q2p, Qd4, c4, List.map_nil] at h ⊢
 rw [Qqj c3]
 rw [c3] at h
 exact h
theorem Qp5 {v : Q0} (hk : 22 ≤ v.Kind) (h : Q1e v = true) : Q1e v.nrm = true := by
 obtain ⟨s1, s2, s3, s4, s5⟩ := Q39 h
 have : v.nrm = ⟨v.Kind, v.N', [], v.Items.map Q0.nrm⟩ := by rw [Qbm, Qis (by omega), s1]
 rw [this]
 exact Qjo s2 s3 (fun h => by rw [List.length_map]; exact s4 h) (fun h => by rw [List.length_map]; exact s5 h)
theorem Qeh (v : Q0) : ∀ m : Int, Xv v m = 0 → Xv v.nrm m = 0 := by
 induction v using Q0.ind with
 | h v ih =>
  intro m h
  rcases Gz h with ⟨k1, k2, k3⟩ | ⟨k1, k2, k3, k4, k5, k6, k7⟩
  ·rw [Q40, Q60, if_neg (by omega), if_neg (by omega), if_pos k2]
   exact Qox k3
  ·rw [Q40, Q60, if_neg (by omega), if_neg (by omega), if_neg (by omega), if_neg k3, Qp5 k1 k4, if_neg (by simp), Q2p, List.length_map, if_neg (by omega), Qv2 k6, Qd4, Qis (by omega)]
   refine Qb3 _ _ _ _ (fun x hx => ?_)
   obtain ⟨y, hy, rfl⟩ := List.mem_map.1 hx
   refine ⟨ih y hy _ (k7 y hy).1, fun hk => ?_⟩
   rw [Q60]; exact (k7 y hy).2 hk
theorem Qrl {R : Q0 → Option Q0} {N : Nat} {v : Q0} {c : Int} (hb : v.sz < 1000000000) (hR : ∀ y ∈ v.Items, R y = some y.nrm) : ∀ (n i : Nat), i ≤ v.Items.length → v.Items.length - i < n →
  Ur R N v c n (i : Int) ((v.Items.take i).map Q0.nrm) = some ⟨v.Kind, c, v.Text, v.Items.map Q0.nrm⟩
 | 0, i, _, h => by omega
 | n + 1, i, hi, hn => by
  have hs := v.sz_eq
  have hl := Q0.szs_len v.Items
  simp only [Ur, Q6, Y6, Qn, Za]
  by_cases h : i < v.Items.length
  ·rw [if_pos (by omega), List.getElem?_eq_getElem h]
   simp only [Option.bind_some, hR _ (List.getElem_mem h)]
   rw [if_pos (by rw [Nat.ble_eq, List.length_map, List.length_take]; omega), Qh _ (by omega)]
   have e : (v.Items.take i).map Q0.nrm ++ [v.Items[i].nrm] = (v.Items.take (i + 1)).map Q0.nrm := by
    rw [List.take_succ_eq_append_getElem h, List.map_append]; rfl
   rw [e]
   exact_mod_cast Qrl (N := N) hb hR n (i + 1) (by omega) (by omega)
  ·rw [if_neg (by omega), List.take_of_length_le (by omega)]
theorem Qgt : ∀ (N : Nat) (v : Q0), v.sz < N → v.sz < 1000000000 → Ws N v = some v.nrm
 | 0, v, h, _ => by omega
 | N + 1, v, h, h2 => by
  have hs := v.sz_eq
  have hl := Q0.szs_len v.Items
  have hL : ∀ c, Wi (Ws N) N v c = some ⟨v.Kind, c, v.Text, v.Items.map Q0.nrm⟩ := fun c =>
   Qrl (R := Ws N) (N := N) (v := v) h2 (fun y hy => Qgt N y (by have := Q0.szs_mem _ y hy; omega) (by have := Q0.szs_mem _ y hy; omega)) N 0 (by omega) (by omega)
  rw [Qbm]
  show Q0a (Ws N) N v = _
  simp only [Q0a, Uv, Um, hL, Q6, Wb, Wy]
  have hd := Q8n v
  unfold Q7g
  by_cases k1 : v.Kind = 11
  ·have k2 : ¬ v.Kind = 12 := by omega
   simp only [k1, decide_true, Bool.true_and, show decide ((11 : Int) = 12) = false from rfl, Bool.false_and, Bool.or_false] at hd
   simp only [if_pos k1, if_neg k2]
   by_cases q1 : Q2t .u64 (Q4e .u64 v.N' 23) 255 = 255 <;> by_cases q2 : Q0d .u64 v.N' 41 ≠ 0 <;> simp [hd, q1, q2]
  ·simp only [if_neg k1]
   by_cases k2 : v.Kind = 12
   ·simp only [k2, show decide ((12 : Int) = 11) = false from rfl, decide_true, Bool.true_and, Bool.false_and, Bool.false_or] at hd
    simp only [if_pos k2]
    by_cases q1 : Q2t .u64 (Q4e .u64 v.N' 52) 2047 = 2047 <;> by_cases q2 : Q0d .u64 v.N' 12 ≠ 0 <;> simp [hd, q1, q2]
   ·simp only [k1, k2, decide_false, Bool.false_and, Bool.or_false] at hd
    simp [hd, k2]
end
end Go.Av
namespace Go.Av
noncomputable section
open Go.Proofs
set_option maxRecDepth 100000
theorem Qfi {R : Q0 → Option Q0} {N : Nat} {v : Q0} (hb : v.sz < 1000000000) (hR : ∀ y ∈ v.Items, R y = some y) : ∀ (n i : Nat), i ≤ v.Items.length → v.Items.length - i < n → Zy R N v n (i : Int) (v.Items.take i) = some v
 | 0, i, _, h => by omega
 | n + 1, i, hi, hn => by
  have hs := v.sz_eq
  have hl := Q0.szs_len v.Items
  simp only [Zy, Q6, Y6, Qn, Za]
  by_cases h : i < v.Items.length
  ·rw [if_pos (by omega), List.getElem?_eq_getElem h]
   simp only [Option.bind_some, hR _ (List.getElem_mem h)]
   rw [if_pos (by rw [Nat.ble_eq, List.length_take]; omega), Qh _ (by omega), ← List.take_succ_eq_append_getElem h]
   exact_mod_cast Qfi (N := N) hb hR n (i + 1) (by omega) (by omega)
  ·rw [if_neg (by omega), List.take_of_length_le (by omega)]
   cases v; rfl
theorem Qgc : ∀ (N : Nat) (v : Q0), v.sz < N → v.sz < 1000000000 → X4 N v = some v
 | 0, v, h, _ => by omega
 | N + 1, v, h, h2 => by
  have hs := v.sz_eq
  have hl := Q0.szs_len v.Items
  have := Qfi (R := X4 N) (N := N) (v := v) h2 (fun y hy => Qgc N y (by have := Q0.szs_mem _ y hy; omega) (by have := Q0.szs_mem _ y hy; omega)) N 0 (by omega) (by omega)
  exact this
theorem Qgb {R : Q0 → Option Q0} {N : Nat} {v w : Q0} {c : Int} (hb : v.sz < 1000000000) (hR : ∀ y ∈ v.Items, R y = some y.nrm) : ∀ (n i : Nat), i ≤ v.Items.length → v.Items.length - i < n →
  Xw R N v w c n (i : Int) ((v.Items.take i).map Q0.nrm ++ v.Items.drop i) = some ⟨w.Kind, c, w.Text, v.Items.map Q0.nrm⟩
 | 0, i, _, h => by omega
 | n + 1, i, hi, hn => by
  have hs := v.sz_eq
  have hl := Q0.szs_len v.Items
  have hlen : ((v.Items.take i).map Q0.nrm).length = i := by rw [List.length_map, List.length_take]; omega
  simp only [Xw, Q6, Y6, Qn, Za]
  by_cases h : i < v.Items.length
  ·rw [if_pos (by omega), List.getElem?_eq_getElem h]
   simp only [Option.bind_some, hR _ (List.getElem_mem h)]
   rw [List.getElem?_append_right (by omega), hlen, Nat.sub_self, List.drop_eq_getElem_cons h]
   simp only [List.getElem?_cons_zero, Option.bind_some, Int.toNat_natCast]
   rw [Qh _ (by omega), List.set_append_right _ _ (by omega), hlen, Nat.sub_self, List.set_cons_zero]
   have e : (v.Items.take i).map Q0.nrm ++ v.Items[i].nrm :: v.Items.drop (i + 1) = (v.Items.take (i + 1)).map Q0.nrm ++ v.Items.drop (i + 1) := by
    rw [List.take_succ_eq_append_getElem h, List.map_append, List.append_assoc]; rfl
   rw [e]
   exact_mod_cast Qgb (N := N) hb hR n (i + 1) (by omega) (by omega)
  ·rw [if_neg (by omega), List.take_of_length_le (by omega), List.drop_of_length_le (by omega), List.append_nil]
theorem Qtq {n : Int} (h : okU n) : ((Q2t .u64 n 2139095040 = 2139095040) = (Q2t .u64 (Q4e .u64 n 23) 255 = 255)) ∧ ((Q2t .u64 n 8388607 ≠ 0) = (Q0d .u64 n 41 ≠ 0)) ∧
  ((Q2t .u64 n 9218868437227405312 = 9218868437227405312) = (Q2t .u64 (Q4e .u64 n 52) 2047 = 2047)) ∧ ((Q2t .u64 n 4503599627370495 ≠ 0) = (Q0d .u64 n 12 ≠ 0)) := by
 obtain ⟨h0, h1⟩ := h
 obtain ⟨n, rfl⟩ := Int.eq_ofNat_of_zero_le h0
 have h1 : n < 18446744073709551616 := by omega
 have e1 := Qzu n 8 23 h1 (by decide) (by decide) (by decide)
 have e2 := Qzu n 11 52 h1 (by decide) (by decide) (by decide)
 rw [show ((2 ^ 8 - 1 : Nat) : Int) = 255 from rfl, show (((2 ^ 8 - 1) * 2 ^ 23 : Nat) : Int) = 2139095040 from rfl, show ((23 : Nat) : Int) = 23 from rfl] at e1
 rw [show ((2 ^ 11 - 1 : Nat) : Int) = 2047 from rfl, show (((2 ^ 11 - 1) * 2 ^ 52 : Nat) : Int) = 9218868437227405312 from rfl, show ((52 : Nat) : Int) = 52 from rfl] at e2
 exact ⟨e1.symm, Qyt n h1, e2.symm, Qzf n h1⟩
theorem Qax : ∀ (N : Nat) (v : Q0), Fine v → v.sz + 1 < N → v.sz < 1000000000 → Yc N v = some v.nrm
 | 0, v, _, h, _ => by omega
 | N + 1, v, hf, h, h2 => by
  have hs := v.sz_eq
  have hl := Q0.szs_len v.Items
  have hL : ∀ c, Y2 (Yc N) N v v c = some ⟨v.Kind, c, v.Text, v.Items.map Q0.nrm⟩ := fun c => by
   have := Qgb (R := Yc N) (N := N) (v := v) (w := v) (c := c) h2 (fun y hy => Qax N y (hf.items y hy) (by have := Q0.szs_mem _ y hy; omega) (by have := Q0.szs_mem _ y hy; omega)) N 0 (by omega) (by omega)
   simpa [Y2] using this
  rw [Qbm]
  show Jb (Yc N) N v = _
  obtain ⟨b1, b2, b3, b4⟩ := Qtq hf.num
  simp only [Jb, Qgc N v (by omega) h2, Option.bind_some, Xz, Yp, W2, hL, Q6, Wb, Wy, b1, b2, b3, b4]
  have hd := Q8n v
  unfold Q7g
  by_cases k1 : v.Kind = 11
  ·have k2 : ¬ v.Kind = 12 := by omega
   simp only [k1, decide_true, Bool.true_and, show decide ((11 : Int) = 12) = false from rfl, Bool.false_and, Bool.or_false] at hd
   simp only [if_pos k1, if_neg k2]
   by_cases q1 : Q2t .u64 (Q4e .u64 v.N' 23) 255 = 255 <;> by_cases q2 : Q0d .u64 v.N' 41 ≠ 0 <;> simp [hd, q1, q2]
  ·simp only [if_neg k1]
   by_cases k2 : v.Kind = 12
   ·simp only [k2, show decide ((12 : Int) = 11) = false from rfl, decide_true, Bool.true_and, Bool.false_and, Bool.false_or] at hd
    simp only [if_pos k2]
    by_cases q1 : Q2t .u64 (Q4e .u64 v.N' 52) 2047 = 2047 <;> by_cases q2 : Q0d .u64 v.N' 12 ≠ 0 <;> simp [hd, q1, q2]
   ·simp only [k1, k2, decide_false, Bool.false_and, Bool.or_false] at hd
    simp [hd, k2]
end
end Go.Av
