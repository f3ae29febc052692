/- The law. Part of a proof of a given statement: for every input the law returns true and the arguments read as before; no condition beyond the given row. -/
import Derived.Test.YtegedmcbfmfjeaaGreatDoorPlain
import Derived.Test.YtegedmcbfmfjeaaGreatDoorLiftF4
namespace Go.Av
noncomputable section
open Go.Proofs
set_option maxRecDepth 100000
def Qmc (k : Nat) : Bool := !(V1 k).2.2.2.2 || (if (V1 k).2.2.2.1 then decide (((V1 k).2.2.1 = 1 ∨ (V1 k).2.2.1 = 4) ∧ 22 ≤ (V1 k).2.1 ∧ (V1 k).2.1 ≤ 24) else decide ((V1 k).2.1 = 25 ∨ (V1 k).2.1 = 22))
theorem Qj6 : ((List.range 40).all Qmc) = true := by decide +kernel
theorem Qhl {P : Int × Int × Int × Bool × Bool → Prop} {B : Nat → Bool} (hB : ((List.range 40).all B) = true) (hP : ∀ k, B k = true → P (V1 k)) {code : Int} (h : ofB code = true) : P (ofT code) := by
 have h1 : bsI code < 40 ∧ Uo (bsI code) = code := by simpa [ofB] using h
 have := List.all_eq_true.1 hB (bsI code) (by simpa using h1.1)
 have e : ofT code = V1 (bsI code) := by unfold ofT; rw [if_pos h]
 rw [e]; exact hP _ this
theorem Gf {code : Int} (h : ofB code = true) (hi : (ofS code).Items = true) : ((ofS code).Sized = true → ((ofS code).Width = 1 ∨ (ofS code).Width = 4) ∧ 22 ≤ (ofS code).Kind ∧ (ofS code).Kind ≤ 24) ∧ ((ofS code).Sized = false → (ofS code).Kind = 25 ∨ (ofS code).Kind = 22) :=
 Qhl (P := fun t => t.2.2.2.2 = true → (t.2.2.2.1 = true → (t.2.2.1 = 1 ∨ t.2.2.1 = 4) ∧ 22 ≤ t.2.1 ∧ t.2.1 ≤ 24) ∧ (t.2.2.2.1 = false → t.2.1 = 25 ∨ t.2.1 = 22)) Qj6 (fun k hk h1 => by
  simp only [Qmc, h1, Bool.not_true, Bool.false_or] at hk
  refine ⟨fun h2 => ?_, fun h2 => ?_⟩
  ·rw [h2] at hk; simpa using hk
  ·rw [h2] at hk; simpa using hk) h hi
theorem Qi5 {R : List UInt8 → Int → Option Rd} {N : Nat} {most : Int} {rd : List UInt8 → Rd} {text : List UInt8} (hm : 1 ≤ most ∧ most ≤ 32) (ht : text.length ≤ 600000) (hN : 100 < N) (hR : ∀ s, s.length ≤ text.length → R s (most - 1) = some (rd s)) (hg : Qk6 rd) :
  ∀ (n i at' : Nat) (l : List Q0), i ≤ 2 → 2 - i < n → at' ≤ text.length → l.length = i →
  Y5 R N most n (i : Int) text (at' : Int) 0 l = some (if (Ws rd (2 - i) (text.drop at') l).2 ≠ 0 then (Jt, 0, (Ws rd (2 - i) (text.drop at') l).2) else (⟨25, 0, [], (Ws rd (2 - i) (text.drop at') l).1.1⟩, ((text.length - (Ws rd (2 - i) (text.drop at') l).1.2.length : Nat) : Int), 0))
 | 0, i, at', l, _, h, _, _ => by omega
 | n + 1, i, at', l, hi, hn, ha, hl => by
  simp only [Y5, Qd, V0, Ve, Wt, Qa6 N text at' 0 ha, Option.bind_some, Zm (most - 1) (show _ by omega), hR (text.drop at') (by rw [List.length_drop]; omega)]
  by_cases hic : i < 2
  ·rw [if_pos (by omega)]
   obtain ⟨k, hk⟩ : ∃ k, 2 - i = k + 1 := ⟨2 - i - 1, by omega⟩
   rw [hk, Ws]
   have hgd := hg (text.drop at') (by rw [List.length_drop]; omega)
   generalize hr : rd (text.drop at') = r at hgd ⊢
   obtain ⟨x, m, e⟩ := r
   simp only [] at hgd ⊢
   by_cases he : e = 0
   ·subst he
    obtain ⟨g1, g2, g3⟩ := hgd rfl
    rw [List.length_drop] at g2
    obtain ⟨mm, rfl⟩ := Int.eq_ofNat_of_zero_le g1
    rw [if_pos rfl, Q1d N text at' mm (by unfold Q74; omega) ha (by omega), if_pos (by omega)]
    simp only [Option.bind_some]
    rw [if_neg (by simp), if_pos (by simp [Nat.ble_eq]; omega), Zm _ (by omega), if_neg (show ¬ ((0 : Int) ≠ 0) by simp)]
    have ih := Qi5 hm ht hN hR hg n (i + 1) (at' + mm) (l ++ [x]) (by omega) (by omega) (by omega) (by simp [hl])
    rw [show ((i : Int) + 1) = ((i + 1 : Nat) : Int) by push_cast; rfl, ih, show 2 - (i + 1) = k by omega, Q3z ha]
    simp only [Int.toNat_natCast]
   ·rw [if_neg he, if_pos (show e ≠ 0 from he), if_pos (show e ≠ 0 from he)]
    simp only []
    rw [if_pos (show e ≠ 0 from he)]; rfl
  ·rw [if_neg (by omega), show 2 - i = 0 by omega, Ws]
   simp only [Qs, Option.bind_some]
   rw [if_neg (show ¬ ((0 : Int) ≠ 0) by simp), List.length_drop]
   congr 3
   omega
theorem Q63 {rd : List UInt8 → Rd} {lo : Nat} (hg : Qk6 rd) (hlo : ∀ s, s.length ≤ 600000 → (rd s).2.2 = 0 → (lo : Int) ≤ (rd s).2.1 ∧ (rd s).1.sz + 1000 * lo ≤ 1 + 1000 * (rd s).2.1.toNat) : ∀ (c : Nat) (s : List UInt8) (acc : List Q0), s.length ≤ 600000 → (Ws rd c s acc).2 = 0 →
  ∃ k, k ≤ s.length ∧ (Ws rd c s acc).1.2 = s.drop k ∧ Q0.szs (Ws rd c s acc).1.1 + 1000 * (lo * c) ≤ Q0.szs acc + c + 1000 * k ∧ (Ws rd c s acc).1.1.length = acc.length + c ∧ lo * c ≤ k
 | 0, s, acc, _, _ => ⟨0, by omega, by simp [Ws], by simp [Ws], by simp [Ws], by simp⟩
 | c + 1, s, acc, hs, h => by
  rw [Ws] at h ⊢
  split at h
  ·rename_i he; exact absurd h he
  ·rename_i he
   rw [if_neg he]
   obtain ⟨g0, g0'⟩ := hlo s hs (Classical.byContradiction he)
   obtain ⟨g1, g2, g3⟩ := hg s hs (Classical.byContradiction he)
   obtain ⟨k, k1, k2, k3, k4, k5⟩ := Q63 hg hlo c (s.drop (rd s).2.1.toNat) (acc ++ [(rd s).1]) (by rw [List.length_drop]; omega) h
   rw [List.length_drop] at k1
   refine ⟨(rd s).2.1.toNat + k, by omega, by rw [k2, List.drop_drop], ?_, by rw [k4]; simp; omega, by rw [Nat.mul_succ]; omega⟩
   rw [Q0.szs_app] at k3
   rw [Nat.mul_succ]
   simp only [Q0.szs] at k3
   omega
theorem Un {data : Int → List UInt8 → Rd} (h : ∀ code, Qk6 (data code)) : Qk6 (Zc data) ∧ ∀ s, s.length ≤ 600000 → (Zc data s).2.2 = 0 → ((1 : Nat) : Int) ≤ (Zc data s).2.1 ∧ (Zc data s).1.sz + 1000 * 1 ≤ 1 + 1000 * (Zc data s).2.1.toNat := by
 have key : ∀ s, s.length ≤ 600000 → (Zc data s).2.2 = 0 → 1 ≤ (Zc data s).2.1 ∧ (Zc data s).2.1 ≤ s.length ∧ (Zc data s).1.sz + 1000 * 1 ≤ 1 + 1000 * (Zc data s).2.1.toNat := by
  intro s hs he
  cases s with
  | nil => simp [Zc] at he
  | cons b t =>
   simp only [Zc] at he ⊢
   split at he
   ·rename_i h1; exact absurd he h1
   ·rename_i h1
    rw [if_neg h1]
    simp only [List.length_cons] at hs ⊢
    obtain ⟨g1, g2, g3⟩ := h b.toNat t (by omega) (Classical.byContradiction h1)
    refine ⟨by omega, by push_cast; omega, ?_⟩
    have : ((data (b.toNat : Int) t).2.1 + 1).toNat = (data (b.toNat : Int) t).2.1.toNat + 1 := by omega
    rw [this]; omega
 exact ⟨fun s hs he => by obtain ⟨a, b, c⟩ := key s hs he; exact ⟨by omega, b, by omega⟩, fun s hs he => ⟨(key s hs he).1, (key s hs he).2.2⟩⟩
theorem Qjz {k num : Int} {q : (List Q0 × List UInt8) × Int} {tot : Nat} (h : (Q8d k num q tot).2.2 = 0) : q.2 = 0 ∧ q.1.2 = [] ∧ Q2t ⟨k, num, [], q.1.1⟩ = 0 ∧ Q8d k num q tot = (⟨k, num, [], q.1.1⟩, (tot : Int), 0) := by
 unfold Q8d at h ⊢
 split at h
 ·simp only [] at h
  split at h
  ·cases h
  ·rename_i h1 _; exact absurd h h1
 split at h
 ·cases h
 split at h
 ·rename_i h3; exact absurd h h3
 ·rename_i h1 h2 h3
  rw [if_neg h1, if_neg h2, if_neg h3]
  exact ⟨Classical.byContradiction h1, Classical.byContradiction h2, Classical.byContradiction h3, rfl⟩
theorem Qf2 {data : Int → List UInt8 → Rd} {c : Qh} {s : List UInt8} (h : (Q3s data c s).2.2 = 0) : ∃ (body : List UInt8) (num : Int) (q : (List Q0 × List UInt8) × Int) (cnt : Nat) (rest : List UInt8), s.length ≥ c.Width.toNat + Vo (s.take c.Width.toNat) ∧ body = (s.drop c.Width.toNat).take (Vo (s.take c.Width.toNat)) ∧ c.Width.toNat ≤ body.length ∧ cnt ≤ 1000 ∧
  ((c.Kind ≠ 24 ∧ num = 0 ∧ rest = body.drop c.Width.toNat ∧ q = Ws (Zc data) cnt rest []) ∨ (c.Kind = 24 ∧ ∃ b : UInt8, body.drop c.Width.toNat = b :: rest ∧ ofB (b.toNat : Int) = true ∧ b.toNat ≠ 0 ∧ num = (ofS (b.toNat : Int)).Kind ∧ q = Ws (data (b.toNat : Int)) cnt rest [])) ∧
  (c.Kind = 23 → cnt % 2 = 0) ∧ (Q8d c.Kind num q (c.Width.toNat + Vo (s.take c.Width.toNat))).2.2 = 0 ∧ Q3s data c s = Q8d c.Kind num q (c.Width.toNat + Vo (s.take c.Width.toNat)) := by
 unfold Q3s at h ⊢
 split at h
 ·cases h
 rename_i h1; rw [if_neg h1]
 split at h
 ·cases h
 rename_i h2; rw [if_neg h2]
 unfold Qlk at h ⊢
 split at h
 ·cases h
 rename_i h3; rw [if_neg h3]
 split at h
 ·cases h
 rename_i h4; rw [if_neg h4]
 split at h
 ·cases h
 rename_i h5; rw [if_neg h5]
 split at h
 ·rename_i h6; rw [if_pos h6]
  cases hb : ((s.drop c.Width.toNat).take (Vo (s.take c.Width.toNat))).drop c.Width.toNat with
  | nil => rw [hb] at h; cases h
  | cons b rest =>
   rw [hb] at h
   simp only [Qoz] at h ⊢
   split at h
   ·cases h
   rename_i h7; rw [if_neg h7]
   refine ⟨_, _, _, _, rest, by omega, rfl, by omega, by omega, .inr ⟨h6, b, hb, ?_, ?_, rfl, rfl⟩, fun hk => by omega, h, rfl⟩
   ·cases ho : ofB (b.toNat : Int) with
    | true => rfl
    | false => exact absurd (.inl ho) h7
   ·exact fun ho => h7 (.inr ho)
 ·rename_i h6; rw [if_neg h6]
  exact ⟨_, _, _, _, _, by omega, rfl, by omega, by omega, .inl ⟨h6, rfl, rfl, rfl⟩, fun hk => by
   apply Classical.byContradiction
   intro hn; exact h5 ⟨hk, hn⟩, h, rfl⟩
theorem ar1 {z lo c k r : Nat} (h : z + 1000 * (lo * c) ≤ 0 + c + 1000 * k) (hk : k ≤ r) (hc : c ≤ 1000) : z ≤ 1000 + 1000 * r := by omega
theorem Qbb {code : Int} {s : List UInt8} (hs : s.length ≤ 600000) (h : (Q65 code s).2.2 = 0) : 0 ≤ (Q65 code s).2.1 ∧ (Q65 code s).2.1 ≤ s.length ∧ (Q65 code s).1.sz ≤ 1 + 1000 * (Q65 code s).2.1.toNat := by
 generalize hg : Q65 code s = g at h ⊢
 obtain ⟨x, n, e⟩ := g
 simp only at h
 subst h
 obtain ⟨h1, h2, h3, h4, h5, h6, h7⟩ := reads (by unfold Q74; omega) hg
 refine ⟨h1, h2, ?_⟩
 rw [Q0.sz_eq, (Q1i h5).2.2.2.1]
 simp only [Q0.szs]; omega
theorem Uq : ∀ (m : Nat) (code : Int), Qk6 (Ye m code) := by
 intro m
 induction m with
 | zero =>
  intro code s hs h
  rw [Ye] at h ⊢
  split at h
  ·cases h
  rename_i h1; rw [if_neg h1]
  split at h
  ·rename_i h2; rw [if_pos h2]; exact Qbb hs h
  ·cases h
 | succ m ih =>
  intro code s hs h
  obtain ⟨hrd, hr1⟩ := Un ih
  rw [Ye] at h ⊢
  split at h
  ·cases h
  rename_i h1; rw [if_neg h1]
  split at h
  ·rename_i h2; rw [if_pos h2]; exact Qbb hs h
  rename_i h2; rw [if_neg h2]
  split at h
  ·rename_i h3; rw [if_pos h3]
   unfold Qg9 at h ⊢
   split at h
   ·rename_i h4; exact absurd h h4
   ·rename_i h4
    rw [if_neg h4]
    obtain ⟨k, k1, k2, k3, k4, k5⟩ := Q63 hrd hr1 2 s [] hs (Classical.byContradiction h4)
    simp only [k2, List.length_drop]
    refine ⟨by omega, by omega, ?_⟩
    rw [Q0.sz_eq]
    simp only [Q0.szs] at k3 ⊢
    omega
  rename_i h3; rw [if_neg h3]
  split at h
  ·rename_i h4; rw [if_pos h4]; simp only []; exact ⟨by omega, by omega, by rw [Q0.sz_eq]; simp [Q0.szs]⟩
  ·rename_i h4; rw [if_neg h4]
   obtain ⟨body, num, q, cnt, rest, p1, p2, p3, p4, p5, p6, p7, p8⟩ := Qf2 h
   obtain ⟨f1, f2, f3, f4⟩ := Qjz p7
   rw [p8, f4]
   simp only []
   have hbl : body.length ≤ Vo (s.take (ofS code).Width.toNat) := by rw [p2, List.length_take]; omega
   have hq : Q0.szs q.1.1 ≤ 1000 + 1000 * rest.length ∧ rest.length ≤ body.length := by
    rcases p5 with ⟨_, _, e1, e2⟩ | ⟨_, b, e0, _, _, _, e2⟩
    ·have hrl : rest.length ≤ body.length := by rw [e1, List.length_drop]; omega
     have hbl2 : body.length ≤ s.length := by rw [p2, List.length_take, List.length_drop]; omega
     rw [e2] at f1 ⊢
     obtain ⟨k, k1, k2, k3, k4, k5⟩ := Q63 hrd hr1 cnt rest [] (by omega) f1
     simp only [Q0.szs] at k3
     exact ⟨ar1 k3 k1 p4, hrl⟩
    ·have hrl : rest.length ≤ body.length := by
      have := congrArg List.length e0
      rw [List.length_drop, List.length_cons] at this; omega
     have hbl2 : body.length ≤ s.length := by rw [p2, List.length_take, List.length_drop]; omega
     rw [e2] at f1 ⊢
     obtain ⟨k, k1, k2, k3, k4, k5⟩ := Q63 (lo := 0) (ih _) (fun s hs he => ⟨(ih _ s hs he).1, by have := (ih _ s hs he).2.2; omega⟩) cnt rest [] (by omega) f1
     simp only [Q0.szs] at k3
     exact ⟨ar1 k3 k1 p4, hrl⟩
   clear p5
   refine ⟨by omega, by omega, ?_⟩
   have hob : ofB code = true := by
    cases ho : ofB code with
    | true => rfl
    | false => exact absurd ho h1
   have hit : (ofS code).Items = true := by
    cases ho : (ofS code).Items with
    | true => rfl
    | false => exact absurd ho h2
   have hsz : (ofS code).Sized = true := by
    cases ho : (ofS code).Sized with
    | true => rfl
    | false => exact absurd ho h4
   have hw := ((Gf hob hit).1 hsz).1
   rw [Q0.sz_eq]
   simp only [Int.toNat_natCast]
   omega
end
end Go.Av
namespace Go.Av
noncomputable section
open Go.Proofs
set_option maxRecDepth 100000
theorem Qnk (N : Nat) (s : List UInt8) (i : Nat) (b : UInt8) (t : List UInt8) (h : s.drop i = b :: t) (hs : Q74 s) (hN : 10 < N) : Qy N ⟨s, i, 0⟩ 1 = some ((b.toNat : Int), ⟨s, ((i + 1 : Nat) : Int), 0⟩) := by
 have hl : i < s.length := by
  apply Classical.byContradiction
  intro hn
  rw [List.drop_of_length_le (by omega)] at h; cases h
 simp only [Qy]
 have := Q1d N s i 1 hs (by omega) (by omega)
 rw [show ((1 : Nat) : Int) = 1 from rfl] at this
 rw [this, if_pos (by omega), h]
 simp only [Option.bind_some, List.take_succ_cons, List.take_zero]
 rw [Q6t N [b] (by simp) hN]
 simp [Vo]
theorem Qpf (n : Nat) : ((n : Int).tmod 2 ≠ 0) = (n % 2 ≠ 0) := by
 apply propext
 rw [Int.tmod_eq_emod_of_nonneg (by omega)]
 omega
theorem Qj5 (m : Nat) (h : m ≤ 32) : Qjg (m : Int) = true := decide_eq_true (by omega)
theorem Qpa {R1 : List UInt8 → Int → Option Rd} {R2 : Int → List UInt8 → Int → Option Rd} {R3 : List UInt8 → Int → Option Rd} {R4 : Qh → List UInt8 → Int → Option Rd} {N m : Nat} {c : Qh} {s : List UInt8} {data : Int → List UInt8 → Rd}
  (hN : 700000000 < N) (hm : m + 1 ≤ 32) (hs : s.length ≤ 600000) (hw : c.Width = 1 ∨ c.Width = 4) (hg : ∀ code, Qk6 (data code))
  (h1 : ∀ t, t.length ≤ 600000 → R1 t (((m + 1 : Nat) : Int) - 1) = some (Zc data t)) (h2 : ∀ code t, t.length ≤ 600000 → R2 code t (((m + 1 : Nat) : Int) - 1) = some (data code t)) :
  V2 R1 R2 R3 R4 N c s ((m + 1 : Nat) : Int) = some (Q3s data c s) := by
 obtain ⟨w, hw'⟩ : ∃ w : Nat, c.Width = w ∧ (w = 1 ∨ w = 4) := by
  rcases hw with h | h
  ·exact ⟨1, h, .inl rfl⟩
  ·exact ⟨4, h, .inr rfl⟩
 obtain ⟨hw1, hw2⟩ := hw'
 have hgr := (Un hg).1
 have hsn : Q74 s := by unfold Q74; omega
 simp only [V2, hw1, Q3n N s w hsn (by omega) (by omega), Option.bind_some, Qn, Qd, Wt, Q1g, Ve]
 unfold Q3s
 rw [hw1, Int.toNat_natCast]
 by_cases hl : w ≤ s.length
 ·rw [if_pos hl]
  dsimp only
  rw [if_neg (show ¬ s.length < w by omega), if_neg (show ¬ ((0 : Int) ≠ 0) by simp), Q3e N s w 0 hl]
  simp only [Option.bind_some]
  have hlt := Jn (s.take w)
  have h4 : 256 ^ (s.take w).length ≤ 256 ^ 4 := Nat.pow_le_pow_right (by omega) (by rw [List.length_take]; omega)
  have h5 : (256 : Nat) ^ 4 = 4294967296 := rfl
  generalize hn : Vo (s.take w) = n at *
  rw [Q6i _ (by omega)]
  by_cases h6 : s.length - w < n
  ·rw [if_pos (by omega), if_pos h6]; rfl
  rw [if_neg (by omega), if_neg h6, Zm _ (by omega), Q1d N s w n hsn hl (by omega), if_pos (by omega)]
  simp only [Option.bind_some]
  have hbl : ((s.drop w).take n).length = n := by rw [List.length_take, List.length_drop]; omega
  generalize hbody : (s.drop w).take n = body at *
  have hbn : Q74 body := by unfold Q74; omega
  unfold Qlk
  rw [Q3n N body w hbn (by omega) (by omega)]
  simp only [Option.bind_some]
  by_cases h7 : w ≤ body.length
  ·rw [if_pos h7]
   dsimp only
   rw [if_neg (show ¬ body.length < w by omega), if_neg (show ¬ ((0 : Int) ≠ 0) by simp)]
   have hlt2 := Jn (body.take w)
   generalize hcnt : Vo (body.take w) = cnt at *
   by_cases h8 : 1000 < cnt
   ·rw [if_pos (show (cnt : Int) > 1000 by omega), if_pos h8]; rfl
   rw [if_neg (show ¬ (cnt : Int) > 1000 by omega), if_neg h8]
   simp only [Qpf]
   have hm' : (1 : Int) ≤ ((m + 1 : Nat) : Int) ∧ ((m + 1 : Nat) : Int) ≤ 32 := by omega
   have arr : ∀ (L : (Int × Q1) → (Qh × Bool) → Option Rd), (∀ (b : UInt8) (t : List UInt8), body.drop w = b :: t → ofB (b.toNat : Int) = true → L ((b.toNat : Int), ⟨body, ((w + 1 : Nat) : Int), 0⟩) (ofS (b.toNat : Int), ofB (b.toNat : Int)) = some (Q8d c.Kind (ofS (b.toNat : Int)).Kind (Ws (data (b.toNat : Int)) cnt t []) (w + n))) →
     ((Z0 N ⟨body, (w : Int), 0⟩).bind fun v20 => if v20.1 = 0 then some ((⟨0, 0, [], []⟩ : Q0), (0 : Int), (5 : Int)) else (Qy N v20.2 1).bind fun v23 => (Wo N (IntKind.i64.wrap v23.1)).bind fun v25 =>
      if (!v25.2) = true then some ((⟨0, 0, [], []⟩ : Q0), (0 : Int), (8 : Int)) else if IntKind.i64.wrap v23.1 = 0 then some ((⟨0, 0, [], []⟩ : Q0), (0 : Int), (8 : Int)) else L v23 v25) = some (Qoz data cnt (w + n) c.Kind (body.drop w)) := by
    intro L hL
    rw [Q3e N body w 0 h7]
    simp only [Option.bind_some]
    cases hd : body.drop w with
    | nil =>
     have : body.length - w = 0 := by
      have := congrArg List.length hd
      rw [List.length_drop] at this; simpa using this
     rw [if_pos (by omega)]; rfl
    | cons b t =>
     have : body.length - w ≠ 0 := by
      have := congrArg List.length hd
      rw [List.length_drop, List.length_cons] at this; omega
     rw [if_neg (by omega), Qnk N body w b t hd hbn (by omega)]
     simp only [Option.bind_some, Wo, Qg8, Qoz]
     cases ho : ofB (b.toNat : Int) with
     | false => rw [if_pos (by rfl), if_pos (.inl rfl)]; rfl
     | true =>
      rw [if_neg (by simp)]
      by_cases hb0 : b.toNat = 0
      ·rw [if_pos (by omega), if_pos (.inr hb0)]; rfl
      ·rw [if_neg (by omega), if_neg (by simp [hb0])]
       have := hL b t hd ho
       rw [ho] at this; exact this
   have hR1 : ∀ t : List UInt8, t.length ≤ body.length → R1 t (((m + 1 : Nat) : Int) - 1) = some (Zc data t) := fun t ht => h1 t (by omega)
   have szb : Q0.szs ([] : List Q0) ≤ 0 + 1000 * w := by simp [Q0.szs]
   have szb1 : Q0.szs ([] : List Q0) ≤ 0 + 1000 * (w + 1) := by simp [Q0.szs]
   have kb : ∀ code : Int, ofB code = true → 0 ≤ (ofS code).Kind ∧ (ofS code).Kind ≤ 25 := fun code ho => by have := (Qgc code ho).kind; omega
   have dl : ∀ (b : UInt8) (t : List UInt8), body.drop w = b :: t → body.drop (w + 1) = t ∧ w + 1 ≤ body.length := fun b t hd => by
    refine ⟨by rw [← List.drop_drop, hd]; rfl, ?_⟩
    have := congrArg List.length hd
    rw [List.length_drop, List.length_cons] at this; omega
   by_cases h23 : c.Kind = 23
   ·rw [if_pos h23]
    by_cases h9 : cnt % 2 ≠ 0
    ·rw [if_pos h9, if_pos ⟨h23, h9⟩]; rfl
    ·rw [if_neg h9, if_neg (show ¬ (c.Kind = 23 ∧ cnt % 2 ≠ 0) from fun h => h9 h.2), if_neg (by omega), if_neg (show ¬ c.Kind = 24 by omega)]
     have := Q72 (R := R1) (N := N) (c := c) (v9 := (body, ⟨s, ((w + n : Nat) : Int), 0⟩)) (v11 := ((cnt : Int), ⟨body, (w : Int), 0⟩)) (rd := Zc data) (text := body) (cnt := cnt) (tot := w + n) hm' (by omega) (by omega) rfl rfl hN hR1 hgr N 0 w [] (by omega) (by omega) h7 rfl szb
     rw [Nat.sub_zero] at this
     exact this
   ·rw [if_neg h23, if_neg (show ¬ (c.Kind = 23 ∧ cnt % 2 ≠ 0) from fun h => h23 h.1)]
    by_cases h24 : c.Kind = 24
    ·rw [if_pos h24, if_pos h24]
     refine arr (fun v23 v25 => Zv R1 R2 N c ((m + 1 : Nat) : Int) (body, ⟨s, ((w + n : Nat) : Int), 0⟩) ((cnt : Int), ⟨body, (w : Int), 0⟩) v23 v25 N 0 v23.2.text v23.2.at' v23.2.err []) (fun b t hd ho => ?_)
     obtain ⟨d1, d2⟩ := dl b t hd
     have := Q7u (R := R1) (R2 := R2) (N := N) (c := c) (v9 := (body, ⟨s, ((w + n : Nat) : Int), 0⟩)) (v11 := ((cnt : Int), ⟨body, (w : Int), 0⟩)) (v23 := ((b.toNat : Int), ⟨body, ((w + 1 : Nat) : Int), 0⟩)) (v25 := (ofS (b.toNat : Int), ofB (b.toNat : Int))) (rd := data (b.toNat : Int)) (text := body) (cnt := cnt) (tot := w + n) (b := b) hm' (by omega) (by omega) rfl rfl rfl (kb _ ho) hN (fun t ht => h2 _ t (by omega)) (hg _) N 0 (w + 1) [] (by omega) (by omega) d2 rfl szb1
     rw [Nat.sub_zero, d1] at this
     exact this
    ·rw [if_neg h24, if_neg h24]
     have := Q7w (R := R1) (N := N) (c := c) (v9 := (body, ⟨s, ((w + n : Nat) : Int), 0⟩)) (v11 := ((cnt : Int), ⟨body, (w : Int), 0⟩)) (rd := Zc data) (text := body) (cnt := cnt) (tot := w + n) hm' (by omega) (by omega) rfl rfl hN hR1 hgr N 0 w [] (by omega) (by omega) h7 rfl szb
     rw [Nat.sub_zero] at this
     exact this
  ·rw [if_neg h7]
   dsimp only
   rw [if_pos (show body.length < w by omega), if_pos (show (3 : Int) ≠ 0 by decide)]; rfl
 ·rw [if_neg hl]
  dsimp only
  rw [if_pos (show s.length < w by omega), if_pos (show (3 : Int) ≠ 0 by decide)]; rfl
theorem Qp6 {m N : Nat} {s : List UInt8} (hm : m ≤ 32) (hs : s.length ≤ 600000) (h : ∀ code t, t.length ≤ s.length → W1 N code t (m : Int) = some (Ye m code t)) : Yo (N + 1) s (m : Int) = some (Zc (Ye m) s) := by
 show U6 (Yo N) (W1 N) (Wf N) (Vq N) N s (m : Int) = _
 simp only [U6, Qao, Qj5 m hm, Option.bind_some, Qd, Bool.not_true, Bool.false_eq_true, if_false]
 cases s with
 | nil => rfl
 | cons b t =>
  rw [if_neg (by simp [Q1q]), show idx (b :: t) 0 = some b from rfl]
  simp only [Option.bind_some]
  rw [if_pos (by simp [Nat.ble_eq]), List.take_length, Qg8]
  simp only [List.drop_succ_cons, List.drop_zero]
  rw [h _ t (by simp)]
  simp only [Option.bind_some, Wt, Zc]
  by_cases he : (Ye m (b.toNat : Int) t).2.2 = 0
  ·rw [if_neg (by simp [he]), if_neg (by simp [he])]
   obtain ⟨g1, g2, g3⟩ := Uq m (b.toNat : Int) t (by simp at hs; omega) he
   rw [Zm _ (by simp at hs; omega)]
  ·rw [if_pos he, if_pos he]; rfl
theorem Qqp : ∀ m : Nat, m ≤ 32 → ∀ N : Nat, 700000100 + 4 * m < N → ∀ (code : Int) (s : List UInt8), s.length ≤ 600000 → W1 N code s (m : Int) = some (Ye m code s) := by
 intro m
 induction m with
 | zero =>
  intro hm N hN code s hs
  obtain ⟨N, rfl⟩ : ∃ K, N = K + 1 := ⟨N - 1, by omega⟩
  show Wx (Yo N) (W1 N) (Wf N) (Vq N) N code s ((0 : Nat) : Int) = _
  simp only [Wx, Qao, Qj5 0 hm, Option.bind_some, Qd, Bool.not_true, Bool.false_eq_true, if_false, Wo, Ve, Ye]
  cases h1 : ofB code with
  | false => rfl
  | true =>
   simp only [Bool.not_true, Bool.false_eq_true, if_false, Bool.true_eq_false]
   cases h2 : (ofS code).Items with
   | false =>
    simp only [Bool.not_false, if_true]
    rw [Qmj N code s (by unfold Q74; omega) (by omega) (by omega)]; rfl
   | true => rfl
 | succ m ih =>
  intro hm N hN code s hs
  obtain ⟨N, rfl⟩ : ∃ K, N = K + 3 := ⟨N - 3, by omega⟩
  show Wx (Yo (N + 2)) (W1 (N + 2)) (Wf (N + 2)) (Vq (N + 2)) (N + 2) code s ((m + 1 : Nat) : Int) = _
  simp only [Wx, Qao, Qj5 (m + 1) hm, Option.bind_some, Qd, Bool.not_true, Bool.false_eq_true, if_false, Wo, Ve, Ye]
  cases h1 : ofB code with
  | false => rfl
  | true =>
   simp only [Bool.not_true, Bool.false_eq_true, if_false, Bool.true_eq_false]
   cases h2 : (ofS code).Items with
   | false =>
    simp only [Bool.not_false, if_true]
    rw [Qmj (N + 2) code s (by unfold Q74; omega) (by omega) (by omega)]; rfl
   | true =>
    simp only [Bool.not_true, Bool.false_eq_true, if_false, Bool.true_eq_false]
    rw [if_neg (show ¬ (((m + 1 : Nat) : Int) = 0) by omega)]
    have hR : ∀ t : List UInt8, t.length ≤ 600000 → Yo (N + 1) t (((m + 1 : Nat) : Int) - 1) = some (Zc (Ye m) t) := fun t ht => by
     rw [show (((m + 1 : Nat) : Int) - 1) = (m : Int) by omega]
     exact Qp6 (by omega) ht (fun code u hu => ih (by omega) N (by omega) code u (by omega))
    have hD : ∀ (code : Int) (t : List UInt8), t.length ≤ 600000 → W1 (N + 1) code t (((m + 1 : Nat) : Int) - 1) = some (Ye m code t) := fun code t ht => by
     rw [show (((m + 1 : Nat) : Int) - 1) = (m : Int) by omega]
     exact ih (by omega) (N + 1) (by omega) code t ht
    by_cases h3 : (ofS code).Kind = 25
    ·rw [if_pos h3, if_pos h3]
     show (We (Yo (N + 1)) (W1 (N + 1)) (Wf (N + 1)) (Vq (N + 1)) (N + 1) s ((m + 1 : Nat) : Int)).bind _ = _
     simp only [We]
     have := Qi5 (R := Yo (N + 1)) (N := N + 1) (most := ((m + 1 : Nat) : Int)) (rd := Zc (Ye m)) (text := s) (by omega) (by omega) (by omega) (fun t ht => hR t (by omega)) (Un (Uq m)).1 (N + 1) 0 0 [] (by omega) (by omega) (by omega) rfl
     rw [show ((0 : Nat) : Int) = 0 from rfl] at this
     rw [this]; rfl
    ·rw [if_neg h3, if_neg h3]
     cases h4 : (ofS code).Sized with
     | false => rfl
     | true =>
      simp only [Bool.not_true, Bool.false_eq_true, if_false, Bool.true_eq_false]
      show (V2 (Yo (N + 1)) (W1 (N + 1)) (Wf (N + 1)) (Vq (N + 1)) (N + 1) (ofS code) s ((m + 1 : Nat) : Int)).bind _ = _
      rw [Qpa (m := m) (c := ofS code) (by omega) hm hs ((Gf h1 h2).1 h4).1 (Uq m) hR hD]; rfl
theorem Qpl (m N : Nat) (s : List UInt8) (hm : m ≤ 32) (hN : 700000200 + 4 * m < N) (hs : s.length ≤ 600000) : Yo N s (m : Int) = some (Zc (Ye m) s) := by
 obtain ⟨N, rfl⟩ : ∃ K, N = K + 1 := ⟨N - 1, by omega⟩
 exact Qp6 hm hs (fun code t ht => Qqp m hm N (by omega) code t (by omega))
end
end Go.Av
namespace Go.Av
noncomputable section
open Go.Proofs
set_option maxRecDepth 100000
theorem Qid (n m k : Nat) : n &&& (m * 2 ^ k) = ((n / 2 ^ k) &&& m) * 2 ^ k := by
 apply Nat.eq_of_testBit_eq
 intro i
 rw [Nat.testBit_and, Nat.testBit_mul_two_pow, Nat.testBit_mul_two_pow, Nat.testBit_and, Nat.testBit_div_two_pow]
 by_cases h : k ≤ i
 ·simp [h]
 ·simp [h]
theorem Qna (n k : Nat) (h : k ≤ 64) : Q6a .u64 (n : Int) (k : Int) = ((n / 2 ^ k : Nat) : Int) := by
 have e : min (k : Int).toNat IntKind.u64.bits = k := by simp [IntKind.bits]; omega
 simp only [Q6a, e]
 rw [Int.fdiv_eq_ediv_of_nonneg _ (by exact_mod_cast Nat.zero_le _)]
 push_cast; rfl
theorem Qrc (n e k : Nat) (hn : n < 18446744073709551616) (hk : k ≤ 63) (he : (2 ^ e - 1) * 2 ^ k < 18446744073709551616) (he2 : 2 ^ e - 1 < 18446744073709551616) :
  (Q3l .u64 (Q6a .u64 (n : Int) (k : Int)) ((2 ^ e - 1 : Nat) : Int) = ((2 ^ e - 1 : Nat) : Int)) = (Q3l .u64 (n : Int) (((2 ^ e - 1) * 2 ^ k : Nat) : Int) = (((2 ^ e - 1) * 2 ^ k : Nat) : Int)) := by
 rw [Qna n k (by omega), Q0q _ _ (Nat.lt_of_le_of_lt (Nat.div_le_self _ _) hn) he2, Q0q _ _ hn he, Qid]
 apply propext
 have hp : 0 < 2 ^ k := Nat.two_pow_pos k
 constructor
 ·intro h
  have := Int.ofNat.inj h
  rw [this]
 ·intro h
  have := Nat.eq_of_mul_eq_mul_right hp (Int.ofNat.inj h)
  rw [this]
theorem Qqv (n : Nat) (hn : n < 18446744073709551616) : (Q3l .u64 (n : Int) 8388607 ≠ 0) = (Jh .u64 (n : Int) 41 ≠ 0) := by
 have e : Jh .u64 (n : Int) 41 = ((n : Int) * 2199023255552) % 18446744073709551616 := by
  show IntKind.u64.wrap _ = _
  rw [Q56]; rfl
 rw [show (8388607 : Int) = ((8388607 : Nat) : Int) from rfl, Q0q _ _ hn (by decide), e, show (8388607 : Nat) = 2 ^ 23 - 1 from rfl, Nat.and_two_pow_sub_one_eq_mod]
 apply propext; omega
theorem Qqt (n : Nat) (hn : n < 18446744073709551616) : (Q3l .u64 (n : Int) 4503599627370495 ≠ 0) = (Jh .u64 (n : Int) 12 ≠ 0) := by
 have e : Jh .u64 (n : Int) 12 = ((n : Int) * 4096) % 18446744073709551616 := by
  show IntKind.u64.wrap _ = _
  rw [Q56]; rfl
 rw [show (4503599627370495 : Int) = ((4503599627370495 : Nat) : Int) from rfl, Q0q _ _ hn (by decide), e, show (4503599627370495 : Nat) = 2 ^ 52 - 1 from rfl, Nat.and_two_pow_sub_one_eq_mod]
 apply propext; omega
theorem Q9l (N : Nat) (v : Q0) (h : okU v.N') : Xl N v = some (nnS v) := by
 rw [← Qor 0 v]
 obtain ⟨h0, h1⟩ := h
 obtain ⟨n, hn⟩ := Int.eq_ofNat_of_zero_le h0
 rw [hn] at h1
 have h1 : n < 18446744073709551616 := by omega
 have e1 := Qrc n 8 23 h1 (by decide) (by decide) (by decide)
 have e2 := Qrc n 11 52 h1 (by decide) (by decide) (by decide)
 rw [show ((2 ^ 8 - 1 : Nat) : Int) = 255 from rfl, show (((2 ^ 8 - 1) * 2 ^ 23 : Nat) : Int) = 2139095040 from rfl, show ((23 : Nat) : Int) = 23 from rfl] at e1
 rw [show ((2 ^ 11 - 1 : Nat) : Int) = 2047 from rfl, show (((2 ^ 11 - 1) * 2 ^ 52 : Nat) : Int) = 9218868437227405312 from rfl, show ((52 : Nat) : Int) = 52 from rfl] at e2
 have l1 : Q7 .neq (Q3l .u64 (n : Int) 8388607) 0 = Q7 .neq (Jh .u64 (n : Int) 41) 0 := by
  rw [Bool.eq_iff_iff, Wt, Wt, Qqv n h1]
 have l2 : Q7 .neq (Q3l .u64 (n : Int) 4503599627370495) 0 = Q7 .neq (Jh .u64 (n : Int) 12) 0 := by
  rw [Bool.eq_iff_iff, Wt, Wt, Qqt n h1]
 unfold Xl Zw
 simp only [hn, l1, l2, Qd, Ve, e1, e2]
 by_cases k1 : v.Kind = 11
 ·have k2 : ¬ v.Kind = 12 := by omega
  simp only [if_pos k1, if_neg k2]
  split
  ·split
   ·rename_i h; rw [h]
   ·rename_i h
    cases hc : Q7 .neq (Jh .u64 (n : Int) 41) 0 with
    | true => exact absurd hc h
    | false => rfl
  ·rfl
 ·simp only [if_neg k1]
theorem Q6r {R : Q0 → Q0 → Option Bool} {N : Nat} {a b : Q0} (hlen : a.Items.length = b.Items.length) (hb : a.Items.length < 4611686018427387904)
  (hR : ∀ y ∈ a.Items, ∀ z ∈ b.Items, R y z = some (Q1n y z)) : ∀ (n i : Nat), i ≤ a.Items.length → a.Items.length - i < n →
  Yi R N a b n (i : Int) = some (Q24 (a.Items.drop i) (b.Items.drop i)) ∧ Yk R N a b n (i : Int) = some (Q24 (a.Items.drop i) (b.Items.drop i))
 | 0, i, _, h => by omega
 | n + 1, i, h1, h2 => by
  simp only [Yi, Yk, Qd, V0, Vc]
  by_cases hi : i < a.Items.length
  ·rw [if_pos (by omega), if_pos (by omega), U3, U3, List.getElem?_eq_getElem hi, List.getElem?_eq_getElem (show i < b.Items.length by omega)]
   simp only [Option.bind_some, hR _ (List.getElem_mem hi) _ (List.getElem_mem (show i < b.Items.length by omega))]
   rw [Zm _ (by omega)]
   obtain ⟨ih1, ih2⟩ := Q6r (N := N) hlen hb hR n (i + 1) (by omega) (by omega)
   rw [List.drop_eq_getElem_cons hi, List.drop_eq_getElem_cons (show i < b.Items.length by omega), Q24]
   cases Q1n a.Items[i] b.Items[i] with
   | true =>
    simp only [Bool.not_true, Bool.false_eq_true, if_false, Bool.true_and]
    exact ⟨by exact_mod_cast ih1, by exact_mod_cast ih2⟩
   | false => simp
  ·rw [if_neg (by omega), if_neg (by omega), List.drop_of_length_le (by omega)]
   simp [Q24]
theorem Q7h : ∀ (N : Nat) (a b : Q0), Fine a → Fine b → a.sz < N → a.sz < 1000000000 → Yl N a b = some (Q1n a b)
 | 0, a, b, _, _, h, _ => by have := a.sz_eq; omega
 | N + 1, a, b, fa, fb, h, h2 => by
  have hs := a.sz_eq
  have hl := Q0.szs_len a.Items
  rw [Qcr]
  simp only [Yl, V6, Qd, Wt, J4, Vc, Q9l N a fa.num, Q9l N b fb.num, Option.bind_some]
  by_cases e1 : a.Kind = b.Kind
  ·by_cases e3 : a.Text = b.Text
   ·by_cases e4 : a.Items.length = b.Items.length
    ·simp only [if_neg (show ¬ (a.Kind ≠ b.Kind) by simp [e1]), if_neg (show ¬ (a.Text ≠ b.Text) by simp [e3]), if_neg (show ¬ ((a.Items.length : Int) ≠ b.Items.length) by simp [e4])]
     obtain ⟨i1, i2⟩ := Q6r (N := N) (R := Yl N) e4 (by omega) (fun y hy z hz => Q7h N y z (fa.items y hy) (fb.items z hz) (by have := Q0.szs_mem _ y hy; omega) (by have := Q0.szs_mem _ y hy; omega)) N 0 (by omega) (by omega)
     rw [show ((0 : Nat) : Int) = 0 from rfl] at i1 i2
     rw [i1, i2, List.drop_zero, List.drop_zero]
     simp only [e1, e3, e4, decide_true, Bool.true_and]
     by_cases e2 : a.N' = b.N'
     ·simp [e2]
     ·simp only [e2, ne_eq, not_false_eq_true, if_true, decide_false, Bool.false_or]
      cases nnS a <;> cases nnS b <;> simp
    ·simp only [if_neg (show ¬ (a.Kind ≠ b.Kind) by simp [e1]), if_neg (show ¬ (a.Text ≠ b.Text) by simp [e3]), if_pos (show ((a.Items.length : Int) ≠ b.Items.length) by omega)]
     simp [e4]
     repeat' split
     all_goals rfl
   ·simp only [if_neg (show ¬ (a.Kind ≠ b.Kind) by simp [e1]), if_pos (show (a.Text ≠ b.Text) from e3)]
    simp [e3]
    repeat' split
    all_goals rfl
  ·rw [if_pos (by simpa using e1)]
   simp [e1]
end
end Go.Av
namespace Go.Av
noncomputable section
open Go.Proofs
set_option maxRecDepth 100000
open Classical in
theorem Qf0 {N : Nat} {v : Q0} (hf : Fine v) (hb : v.sz < 1000000000) (hN : v.sz < N) {k0 : Int → Option Bool} {i : Nat} (hi : i < v.Items.length) (i2 : i % 2 = 0) : ∀ (n k : Nat), i - k < n → k % 2 = 0 → k ≤ i →
  Yh N k0 v.Items (i : Int) n (k : Int) = if ∃ j, k ≤ j ∧ j < i ∧ j % 2 = 0 ∧ AL v i j then some true else k0 ((i + 2 : Nat) : Int)
 | 0, k, h, _, _ => by omega
 | n + 1, k, h, hk, hki => by
  have hs := v.sz_eq
  have hl := Q0.szs_len v.Items
  simp only [Yh, Qd, V0, U3]
  by_cases hlt : k < i
  ·rw [if_pos (by omega), List.getElem?_eq_getElem hi, List.getElem?_eq_getElem (show k < v.Items.length by omega)]
   simp only [Option.bind_some]
   have hsz := Q0.szs_mem _ _ (List.getElem_mem hi)
   rw [Q7h N _ _ (hf.items _ (List.getElem_mem hi)) (hf.items _ (List.getElem_mem (show k < v.Items.length by omega))) (by omega) (by omega)]
   simp only [Option.bind_some]
   cases hal : Q1n v.Items[i] v.Items[k] with
   | true =>
    rw [if_pos rfl, if_pos ⟨k, Nat.le_refl _, hlt, hk, _, _, List.getElem?_eq_getElem hi, List.getElem?_eq_getElem (by omega), hal⟩]
   | false =>
    rw [if_neg (by simp), Zm _ (by omega)]
    have := Qf0 (k0 := k0) hf hb hN hi i2 n (k + 2) (by omega) (by omega) (by omega)
    rw [show ((k : Int) + 2) = ((k + 2 : Nat) : Int) by push_cast; rfl, this]
    by_cases hx : ∃ j, k + 2 ≤ j ∧ j < i ∧ j % 2 = 0 ∧ AL v i j
    ·rw [if_pos hx]
     obtain ⟨j, j1, j2, j3, j4⟩ := hx
     rw [if_pos ⟨j, by omega, j2, j3, j4⟩]
    ·rw [if_neg hx, if_neg]
     rintro ⟨j, j1, j2, j3, j4⟩
     by_cases hjk : j = k
     ·subst hjk
      obtain ⟨x, y, x1, y1, z1⟩ := j4
      rw [List.getElem?_eq_getElem hi] at x1
      rw [List.getElem?_eq_getElem (by omega)] at y1
      cases x1; cases y1
      rw [hal] at z1; cases z1
     ·exact hx ⟨j, by omega, j2, j3, j4⟩
  ·rw [if_neg (by omega), Zm _ (by omega), if_neg (by rintro ⟨j, j1, j2, _⟩; omega)]
   push_cast; rfl
open Classical in
theorem Qfo {N : Nat} {v : Q0} (hf : Fine v) (hb : v.sz < 1000000000) (hN : v.sz < N) : ∀ (n i : Nat), v.Items.length - i < n → i % 2 = 0 → i ≤ v.Items.length + 2 →
  Zl N v.Items n (i : Int) = some (if ∃ i' j, i ≤ i' ∧ i' % 2 = 0 ∧ i' < v.Items.length ∧ j < i' ∧ j % 2 = 0 ∧ AL v i' j then true else false)
 | 0, i, h, _, _ => by omega
 | n + 1, i, h, hi, hle => by
  have hs := v.sz_eq
  have hl := Q0.szs_len v.Items
  simp only [Zl, Qd, V0, Vc]
  by_cases hlt : i < v.Items.length
  ·rw [if_pos (by omega)]
   have h1 := Qf0 (N := N) (k0 := Zl N v.Items n) hf hb hN hlt hi N 0 (by omega) (by omega) (by omega)
   rw [show ((0 : Nat) : Int) = 0 from rfl] at h1
   rw [h1]
   by_cases hx : ∃ j, 0 ≤ j ∧ j < i ∧ j % 2 = 0 ∧ AL v i j
   ·rw [if_pos hx]
    obtain ⟨j, _, j2, j3, j4⟩ := hx
    rw [if_pos ⟨i, j, Nat.le_refl _, hi, hlt, j2, j3, j4⟩]
   ·rw [if_neg hx, Qfo hf hb hN n (i + 2) (by omega) (by omega) (by omega)]
    by_cases hy : ∃ i' j, i + 2 ≤ i' ∧ i' % 2 = 0 ∧ i' < v.Items.length ∧ j < i' ∧ j % 2 = 0 ∧ AL v i' j
    ·rw [if_pos hy]
     obtain ⟨i', j, a1, a2, a3⟩ := hy
     rw [if_pos ⟨i', j, by omega, a2, a3⟩]
    ·rw [if_neg hy, if_neg]
     rintro ⟨i', j, a1, a2, a3, a4, a5, a6⟩
     by_cases he : i' = i
     ·subst he; exact hx ⟨j, by omega, a4, a5, a6⟩
     ·exact hy ⟨i', j, by omega, a2, a3, a4, a5, a6⟩
  ·rw [if_neg (by omega), if_neg]
   rintro ⟨i', j, a1, a2, a3, _⟩; omega
theorem Qky (v : Q0) : Q2t v = 0 ∨ Q2t v = 16 := by
 unfold Q2t
 split
 ·exact .inl rfl
 ·split
  ·exact .inr rfl
  ·exact .inl rfl
open Classical in
theorem Qll (N : Nat) (v : Q0) (hf : Fine v) (hk : v.Kind = 23) (hb : v.sz < 1000000000) (hN : v.sz + 5 < N) : Yn N v.Items = some (decide (Q2t v = 16)) := by
 have hs := v.sz_eq
 have hl := Q0.szs_len v.Items
 have h0 := Qfo hf hb (show v.sz < N by omega) N 0 (by omega) (by omega) (by omega)
 rw [show ((0 : Nat) : Int) = 0 from rfl] at h0
 unfold Yn
 rw [h0]
 have hkey : Q2t v = 16 ↔ ∃ i j, 2 ≤ i ∧ i % 2 = 0 ∧ i < v.Items.length ∧ j < i ∧ j % 2 = 0 ∧ AL v i j := by
  unfold Q2t
  rw [if_neg (fun h => h hk)]
  split
  ·rename_i hx; exact ⟨fun _ => hx, fun _ => rfl⟩
  ·rename_i hx; exact ⟨fun h => (by cases h), fun h => absurd h hx⟩
 by_cases hx : ∃ i' j, 0 ≤ i' ∧ i' % 2 = 0 ∧ i' < v.Items.length ∧ j < i' ∧ j % 2 = 0 ∧ AL v i' j
 ·rw [if_pos hx]
  obtain ⟨i, j, a1, a2, a3, a4, a5, a6⟩ := hx
  rw [decide_eq_true (hkey.2 ⟨i, j, by omega, a2, a3, a4, a5, a6⟩)]
 ·rw [if_neg hx, decide_eq_false]
  rw [hkey]
  rintro ⟨i, j, a1, a2, a3, a4, a5, a6⟩
  exact hx ⟨i, j, by omega, a2, a3, a4, a5, a6⟩
end
end Go.Av
namespace Go.Av
noncomputable section
open Go.Proofs
set_option maxRecDepth 100000
def Qmr (k : Nat) : Bool := !(decide ((V1 k).2.1 = 25)) || decide ((V1 k).1 = 0)
theorem Qi8 : ((List.range 40).all Qmr) = true := by decide +kernel
theorem Qqh {code : Int} (h : ofB code = true) (hk : (ofS code).Kind = 25) : code = 0 := by
 have := Qhl (P := fun t => t.2.1 = 25 → t.1 = 0) Qi8 (fun k hk h1 => by simpa [Qmr, h1] using hk) h hk
 rw [← (Qgc code h).code]; exact this
theorem Qfd {d : Int → List UInt8 → Rd} {s : List UInt8} (he : (Zc d s).2.2 = 0) : ∃ b u, s = b :: u ∧ (d (b.toNat : Int) u).2.2 = 0 ∧ Zc d s = ((d (b.toNat : Int) u).1, (d (b.toNat : Int) u).2.1 + 1, 0) := by
 cases s with
 | nil => simp [Zc] at he
 | cons b u =>
  have h1 : (d (b.toNat : Int) u).2.2 = 0 := by
   simp only [Zc] at he
   split at he
   ·rename_i h1; exact absurd he h1
   ·rename_i h1; exact Classical.byContradiction h1
  refine ⟨b, u, rfl, h1, ?_⟩
  simp only [Zc]; rw [if_neg (by simp [h1])]
noncomputable def Qma (d : Int → List UInt8 → Rd) (code : Int) (s : List UInt8) : Rd := if (ofS code).Kind = 25 then Qg9 (Zc d) s else if (ofS code).Sized = false then (⟨(ofS code).Kind, 0, [], []⟩, 0, 0) else Q3s d (ofS code) s
theorem Qcs {code : Int} (h1 : ofB code = true) (h2 : (ofS code).Items = false) (m : Nat) (s : List UInt8) : Ye m code s = Q65 code s := by
 cases m <;> simp only [Ye, h1, h2, if_true, if_false, Bool.true_eq_false]
theorem Qgy {code : Int} (h1 : ofB code = true) (h2 : (ofS code).Items = true) (m : Nat) (s : List UInt8) : Ye (m + 1) code s = Qma (Ye m) code s := by
 simp only [Ye, h1, h2, if_false, Bool.true_eq_false]; rfl
theorem Qei {m : Nat} {code : Int} {s : List UInt8} (he : (Ye m code s).2.2 = 0) : ofB code = true ∧ ((ofS code).Items = false ∨ (ofS code).Items = true ∧ ∃ k, m = k + 1) := by
 have h1 : ofB code = true := by
  cases h : ofB code with
  | true => rfl
  | false => cases m <;> simp [Ye, h] at he
 refine ⟨h1, ?_⟩
 cases h2 : (ofS code).Items with
 | false => exact .inl rfl
 | true =>
  cases m with
  | zero => simp [Ye, h1, h2] at he
  | succ m => exact .inr ⟨rfl, m, rfl⟩
theorem Q10 {rd : List UInt8 → Rd} {P : Q0 → Prop} (hP : ∀ s, s.length ≤ 300000 → (rd s).2.2 = 0 → P (rd s).1) : ∀ (c : Nat) (s : List UInt8) (acc : List Q0), s.length ≤ 300000 → (∀ x ∈ acc, P x) → (Ws rd c s acc).2 = 0 → (∀ x ∈ (Ws rd c s acc).1.1, P x) ∧ (Ws rd c s acc).1.1.length = acc.length + c
 | 0, s, acc, _, ha, _ => ⟨by simpa [Ws] using ha, by simp [Ws]⟩
 | c + 1, s, acc, hs, ha, h => by
  rw [Ws] at h ⊢
  split at h
  ·rename_i he; exact absurd h he
  ·rename_i he
   rw [if_neg he]
   have := Q10 hP c (s.drop (rd s).2.1.toNat) (acc ++ [(rd s).1]) (by rw [List.length_drop]; omega) (fun x hx => by
    rcases List.mem_append.1 hx with hx | hx
    ·exact ha x hx
    ·rw [List.mem_singleton.1 hx]; exact hP s hs (Classical.byContradiction he)) h
   refine ⟨this.1, ?_⟩
   rw [this.2, List.length_append, List.length_singleton]; omega
theorem Q95 : ∀ (l : List Q0) (k n m : Int), (∀ x ∈ l, Gy x m = 0 ∧ (k = 24 → IntKind.u64.wrap x.Kind = n)) → Q54 l k n m 0 = 0
 | [], _, _, _, _ => by rw [Q54]
 | x :: l, k, n, m, h => by
  obtain ⟨h1, h2⟩ := h x (by simp)
  rw [Q54, if_neg (fun hh => hh.2 (h2 hh.1)), if_neg (by simp [h1])]
  exact Q95 l k n m (fun y hy => h y (by simp [hy]))
theorem Qhe {k n : Int} {l : List Q0} (h24 : k = 24 → 1 ≤ n ∧ n ≤ 24) (h0 : k ≠ 24 → n = 0) (h25 : k = 25 → l.length = 2) (h23 : k = 23 → l.length % 2 = 0) : Qae ⟨k, n, [], l⟩ = true := by
 unfold Qae Qhx
 simp only [Qd, J4, Ve, Wt, Q60, Vc]
 rw [if_neg (by simp)]
 by_cases e : k = 24
 ·rw [if_pos e, if_pos (h24 e).1]
  have := (h24 e).2
  simp [Qbz]; exact this
 ·rw [if_neg e, if_neg (by simp [h0 e])]
  by_cases e5 : k = 25
  ·rw [if_pos e5]
   simp [Ve, h25 e5]
  ·rw [if_neg e5]
   by_cases e3 : k = 23
   ·rw [if_pos e3]
    have := h23 e3
    simp [Ve, Int.tmod_eq_emod_of_nonneg]; omega
   ·rw [if_neg e3]; rfl
theorem Qdo {k n : Int} {l : List Q0} (h : k ≠ 23) : Q2t ⟨k, n, [], l⟩ = 0 := by
 unfold Q2t
 rw [if_pos h]
theorem Q67 {k n : Int} {l : List Q0} {m : Nat} (hk : 22 ≤ k ∧ k ≤ 25) (hl : l.length ≤ 1000) (hit : ∀ x ∈ l, Fine x ∧ Gy x m = 0 ∧ (k = 24 → IntKind.u64.wrap x.Kind = n)) (hkeys : Q2t ⟨k, n, [], l⟩ = 0)
  (h24 : k = 24 → 1 ≤ n ∧ n ≤ 24) (h0 : k ≠ 24 → n = 0) (h25 : k = 25 → l.length = 2) (h23 : k = 23 → l.length % 2 = 0) : Fine ⟨k, n, [], l⟩ ∧ Gy ⟨k, n, [], l⟩ ((m + 1 : Nat) : Int) = 0 := by
 refine ⟨.mk _ ?_ (by simp) (fun x hx => (hit x hx).1), ?_⟩
 ·by_cases h : k = 24
  ·have := h24 h; exact ⟨by simp only []; omega, by simp only []; omega⟩
  ·have := h0 h; exact ⟨by simp only []; omega, by simp only []; omega⟩
 ·rw [Qbm]
  simp only [hkeys, Qhe h24 h0 h25 h23]
  rw [if_neg (by omega), if_neg (by omega), if_neg (by omega), if_neg (by omega), if_neg (by simp), if_neg (by omega), show (((m + 1 : Nat) : Int) - 1) = (m : Int) by omega]
  exact Q95 _ _ _ _ (fun x hx => (hit x hx).2)
theorem Q97 {code : Int} {s : List UInt8} (m : Int) (hs : s.length ≤ 300000) (h : (Q65 code s).2.2 = 0) : Fine (Q65 code s).1 ∧ Gy (Q65 code s).1 m = 0 ∧ (Q65 code s).1.Kind = (ofS code).Kind := by
 generalize hg : Q65 code s = g at h ⊢
 obtain ⟨x, n, e⟩ := g
 simp only at h
 subst h
 obtain ⟨h1, h2, h3, h4, h5, h6, h7⟩ := reads (by unfold Q74; omega) hg
 obtain ⟨c1, c2, c3, c4, _⟩ := Q1i h5
 show Fine x ∧ Gy x m = 0 ∧ x.Kind = (ofS code).Kind
 refine ⟨.mk _ h3 (by omega) (by simp [c4]), ?_, (Q3c h6).2.1.symm⟩
 rw [Qbm, if_neg (by omega), if_neg (by omega), if_pos (by omega)]; exact h5
theorem Q91 : ∀ (m : Nat) (code : Int) (s : List UInt8), s.length ≤ 300000 → (Ye m code s).2.2 = 0 → Fine (Ye m code s).1 ∧ Gy (Ye m code s).1 m = 0 ∧ (Ye m code s).1.Kind = (ofS code).Kind := by
 intro m
 induction m with
 | zero =>
  intro code s hs he
  obtain ⟨h1, h2 | ⟨h2, k, hk⟩⟩ := Qei he
  ·rw [Qcs h1 h2] at he ⊢
   exact Q97 _ hs he
  ·omega
 | succ m ih =>
  intro code s hs he
  obtain ⟨h1, h2 | ⟨h2, k, hk⟩⟩ := Qei he
  ·rw [Qcs h1 h2] at he ⊢
   exact Q97 _ hs he
  rw [Qgy h1 h2] at he ⊢
  have hsh := Gf h1 h2
  have hrd : ∀ s : List UInt8, s.length ≤ 300000 → (Zc (Ye m) s).2.2 = 0 → Fine (Zc (Ye m) s).1 ∧ Gy (Zc (Ye m) s).1 m = 0 := fun s hs he => by
   obtain ⟨b, u, rfl, e1, e2⟩ := Qfd he
   have := ih b.toNat u (by simp at hs; omega) e1
   rw [e2]; exact ⟨this.1, this.2.1⟩
  unfold Qma at he ⊢
  by_cases k25 : (ofS code).Kind = 25
  ·rw [if_pos k25] at he ⊢
   have e1 : (Ws (Zc (Ye m)) 2 s []).2 = 0 := by
    unfold Qg9 at he
    split at he
    ·exact he
    ·rename_i h1; exact Classical.byContradiction h1
   obtain ⟨i1, i2⟩ := Q10 (P := fun x => Fine x ∧ Gy x m = 0) hrd 2 s [] hs (by simp) e1
   unfold Qg9
   rw [if_neg (by simp [e1]), k25]
   simp only []
   have hl2 : (Ws (Zc (Ye m)) 2 s []).1.1.length = 2 := by simpa using i2
   have := Q67 (k := 25) (n := 0) (l := (Ws (Zc (Ye m)) 2 s []).1.1) (m := m) (by omega) (by omega) (fun x hx => ⟨(i1 x hx).1, (i1 x hx).2, fun h => by omega⟩) (Qdo (by omega)) (by omega) (fun _ => rfl) (fun _ => hl2) (by omega)
   exact ⟨this.1, this.2, trivial⟩
  rw [if_neg k25] at he ⊢
  by_cases hsz : (ofS code).Sized = false
  ·rw [if_pos hsz] at he ⊢
   have hk : (ofS code).Kind = 22 := by have := hsh.2 hsz; omega
   rw [hk]
   have := Q67 (k := 22) (n := 0) (l := []) (m := m) (by omega) (by simp) (by simp) (Qdo (by omega)) (by omega) (fun _ => rfl) (by omega) (by omega)
   exact ⟨this.1, this.2, rfl⟩
  rw [if_neg hsz] at he ⊢
  have hsz : (ofS code).Sized = true := by
   cases h : (ofS code).Sized with
   | true => rfl
   | false => exact absurd h hsz
  obtain ⟨body, num, q, cnt, rest, p1, p2, p3, p4, p5, p6, p7, p8⟩ := Qf2 he
  obtain ⟨f1, f2, f3, f4⟩ := Qjz p7
  rw [p8, f4]
  have hk := (hsh.1 hsz).2
  have hbl2 : body.length ≤ s.length := by
   rw [p2]
   exact Nat.le_trans (List.length_take_le' _ _) (by rw [List.length_drop]; exact Nat.sub_le _ _)
  rcases p5 with ⟨q0, q1, q2, q3⟩ | ⟨q0, b, q1, q2, q3, q4, q5⟩
  ·have hrl : rest.length ≤ body.length := by rw [q2, List.length_drop]; omega
   rw [q3] at f1
   obtain ⟨i1, i2⟩ := Q10 (P := fun x => Fine x ∧ Gy x m = 0) hrd cnt rest [] (by omega) (by simp) f1
   rw [← q3] at i1 i2
   have hlc : q.1.1.length = cnt := by simpa using i2
   have := Q67 (k := (ofS code).Kind) (n := num) (l := q.1.1) (m := m) (by omega) (by omega) (fun x hx => ⟨(i1 x hx).1, (i1 x hx).2, fun h => absurd h q0⟩) f3 (fun h => absurd h q0) (fun _ => q1) (by omega) (fun h => by rw [hlc]; exact p6 h)
   exact ⟨this.1, this.2, rfl⟩
  ·have hrl : rest.length ≤ body.length := by
    have := congrArg List.length q1
    rw [List.length_drop, List.length_cons] at this; omega
   rw [q5] at f1
   obtain ⟨i1, i2⟩ := Q10 (P := fun x => Fine x ∧ Gy x m = 0 ∧ x.Kind = (ofS (b.toNat : Int)).Kind) (ih (b.toNat : Int)) cnt rest [] (by omega) (by simp) f1
   rw [← q5] at i1 i2
   have hlc : q.1.1.length = cnt := by simpa using i2
   have hbk := (Qgc _ q2).kind
   have hb25 : (ofS (b.toNat : Int)).Kind ≠ 25 := fun h => q3 (by have := Qqh q2 h; omega)
   have := Q67 (k := (ofS code).Kind) (n := num) (l := q.1.1) (m := m) (by omega) (by omega) (fun x hx => ⟨(i1 x hx).1, (i1 x hx).2.1, fun _ => by rw [(i1 x hx).2.2, q4, Q56]; omega⟩) f3 (fun _ => by rw [q4]; omega) (fun h => absurd q0 h) (by omega) (by omega)
   exact ⟨this.1, this.2, rfl⟩
end
end Go.Av
namespace Go.Av
noncomputable section
open Go.Proofs
set_option maxRecDepth 100000
theorem Q6g {Lp : Nat → List UInt8 → Int → List Q0 → Option Rd} {nx : List UInt8 → Option Rd} {E : List UInt8 → List Q0 → Option Rd} {v11 k num : Int} {cnt tot : Nat} {rd : List UInt8 → Rd}
  (hLp : ∀ n body i l, Lp (n + 1) body i l = cond (Q7 .lss i v11) ((nx body).bind fun v => cond (Q7 .eql v.2.2 3) (some ((⟨0, 0, [], []⟩ : Q0), 0, 5)) (cond (Q7 .neq v.2.2 0) (some ((⟨0, 0, [], []⟩ : Q0), 0, v.2.2)) (cond (Nat.ble ((l.length + 1 + 4096) * 56) 17592186044416) (cond (decide (0 ≤ v.2.1)) (cond (Nat.ble v.2.1.toNat body.length && Nat.ble body.length body.length) (Lp n ((body.take body.length).drop v.2.1.toNat) (IntKind.wrap .u64 (i + 1)) (l ++ [v.1])) none) none) none))) (E body l))
  (h11 : v11 = (cnt : Int)) (hc : cnt ≤ 1000) (hR : ∀ s, s.length ≤ 300000 → nx s = some (rd s)) (hg : Qk6 rd) (hf : ∀ s, s.length ≤ 300000 → (rd s).2.2 = 0 → Fine (rd s).1)
  (hE : ∀ body l, (∀ x ∈ l, Fine x) → Q0.szs l ≤ 300001000 → E body l = some (Q8d k num ((l, body), 0) tot)) :
  ∀ (n i : Nat) (body : List UInt8) (l : List Q0), i ≤ cnt → cnt - i < n → body.length ≤ 300000 → l.length = i → (∀ x ∈ l, Fine x) → Q0.szs l ≤ i + 1000 * (300000 - body.length) →
  Lp n body (i : Int) l = some (Q8d k num (Ws rd (cnt - i) body l) tot)
 | 0, i, body, l, _, h, _, _, _, _ => by omega
 | n + 1, i, body, l, hi, hn, hb, hl, hfl, hz => by
  rw [hLp]
  simp only [Qd, V0, Ve, Wt, h11, hR body hb, Option.bind_some, List.take_length]
  by_cases hic : i < cnt
  ·rw [if_pos (by omega)]
   obtain ⟨k', hk⟩ : ∃ k', cnt - i = k' + 1 := ⟨cnt - i - 1, by omega⟩
   rw [hk, Ws]
   have hgd := hg body (by omega)
   have hfd := hf body hb
   generalize hr : rd body = r at hgd hfd ⊢
   obtain ⟨x, m, e⟩ := r
   simp only [] at hgd hfd ⊢
   by_cases he : e = 0
   ·subst he
    obtain ⟨g1, g2, g3⟩ := hgd rfl
    obtain ⟨mm, rfl⟩ := Int.eq_ofNat_of_zero_le g1
    simp only [Int.toNat_natCast] at g3 ⊢
    rw [if_neg (by decide), if_neg (by simp), if_pos (by simp [Nat.ble_eq]; omega), if_pos (by simp), if_pos (by simp [Nat.ble_eq]; omega), Qq0 i (by omega), if_neg (by simp)]
    have ih := Q6g hLp h11 hc hR hg hf hE n (i + 1) (body.drop mm) (l ++ [x]) (by omega) (by omega) (by rw [List.length_drop]; omega) (by simp [hl]) (fun y hy => by
     rcases List.mem_append.1 hy with hy | hy
     ·exact hfl y hy
     ·rw [List.mem_singleton.1 hy]; exact hfd rfl) (by
     rw [Q0.szs_app, List.length_drop]
     simp only [Q0.szs] at g3 ⊢
     omega)
    rw [ih, show cnt - (i + 1) = k' by omega]
   ·rw [if_pos (show e ≠ 0 from he), if_pos (show e ≠ 0 from he), Q66 he]
    by_cases h3 : e = 3
    ·rw [if_pos h3, if_pos h3]; rfl
    ·rw [if_neg h3, if_neg h3]; rfl
  ·rw [if_neg (by omega), show cnt - i = 0 by omega, Ws]
   exact hE body l hfl (by omega)
theorem Qkp {N : Nat} {body : List UInt8} {l : List Q0} {a : Int} {tot : Nat} (hfl : ∀ x ∈ l, Fine x) (hz : Q0.szs l ≤ 300001000) (hN : 700000000 < N) (ha : a = (tot : Int)) :
  (cond (Q1q .neq body []) (some ((⟨0, 0, [], []⟩ : Q0), (0 : Int), (5 : Int))) ((Yn N l).bind fun v101 => cond v101 (some ((⟨0, 0, [], []⟩ : Q0), 0, 16)) (some ((⟨23, 0, [], l⟩ : Q0), a, 0)))) = some (Q8d 23 0 ((l, body), 0) tot) := by
 have hs : Q0.sz ⟨23, 0, [], l⟩ = 1 + Q0.szs l := by rw [Q0.sz_eq]
 have h1 := Qll N ⟨23, 0, [], l⟩ (.mk _ Qm0 (by simp) hfl) rfl (by omega) (by omega)
 simp only at h1
 simp only [h1, Qd, J4, Option.bind_some, ha]
 unfold Q8d
 simp only []
 rw [if_neg (show ¬ ((0 : Int) ≠ 0) by simp)]
 by_cases hb : body ≠ []
 ·rw [if_pos hb, if_pos hb]; rfl
 ·rw [if_neg hb, if_neg hb]
  rcases Qky ⟨23, 0, [], l⟩ with h | h
  ·rw [h]; simp
  ·rw [h]; simp [Jt]
theorem Qfi {body : List UInt8} {l : List Q0} {k num a : Int} {tot : Nat} (hk : k ≠ 23) (ha : a = (tot : Int)) :
  (cond (Q1q .neq body []) (some ((⟨0, 0, [], []⟩ : Q0), (0 : Int), (5 : Int))) (some ((⟨k, num, [], l⟩ : Q0), a, 0))) = some (Q8d k num ((l, body), 0) tot) := by
 simp only [Qd, J4, ha]
 unfold Q8d
 simp only []
 rw [if_neg (show ¬ ((0 : Int) ≠ 0) by simp), Qdo hk]
 by_cases hb : body ≠ []
 ·rw [if_pos hb, if_pos hb]; rfl
 ·rw [if_neg hb, if_neg hb, if_neg (by simp)]
theorem Qif : ∀ (m : Nat) (code : Int) (s : List UInt8), s.length ≤ 300000 → (Ye m code s).2.2 = 0 → Fine (Ye m code s).1 := fun m code s h1 h2 => (Q91 m code s h1 h2).1
theorem Qbh (m : Nat) (s : List UInt8) (h1 : s.length ≤ 300000) (h2 : (Zc (Ye m) s).2.2 = 0) : Fine (Zc (Ye m) s).1 := by
 obtain ⟨b, u, rfl, e1, e2⟩ := Qfd h2
 have := Q91 m b.toNat u (by simp at h1; omega) e1
 rw [e2]; exact this.1
theorem Qhu {R1 : List UInt8 → Int → Option Rd} {R2 : Int → List UInt8 → Int → Option Rd} {R3 : Qh → List UInt8 → Int → Option Rd} {R4 : Int → List UInt8 → Int → Option Rd} {N m m' : Nat} {c : Qh} {s : List UInt8}
  (hN : 700000000 < N) (hm : m + 1 ≤ 32) (hs : s.length ≤ 300000) (hw : c.Width = 1 ∨ c.Width = 4) (_hk : 22 ≤ c.Kind ∧ c.Kind ≤ 24)
  (h1 : ∀ t, t.length ≤ 300000 → R4 (-1) t (((m + 1 : Nat) : Int) - 1) = some (Zc (Ye m') t)) (h2 : ∀ code t, 0 ≤ code → t.length ≤ 300000 → R4 code t (((m + 1 : Nat) : Int) - 1) = some (Ye m' code t)) :
  X9 R1 R2 R3 R4 N c s ((m + 1 : Nat) : Int) = some (Q3s (Ye m') c s) := by
 obtain ⟨w, hw1, hw2⟩ : ∃ w : Nat, c.Width = w ∧ (w = 1 ∨ w = 4) := by
  rcases hw with h | h
  ·exact ⟨1, h, .inl rfl⟩
  ·exact ⟨4, h, .inr rfl⟩
 have hg := Uq m'
 simp only [X9, hw1, Qd, V0, Q1g, Ve, Wt, Int.toNat_natCast, List.drop_zero]
 unfold Q3s
 rw [hw1, Int.toNat_natCast]
 by_cases hl : s.length < w
 ·rw [if_pos (by omega), if_pos hl]; rfl
 rw [if_neg (by omega), if_neg hl, if_pos (by simp), if_pos (by simp [Nat.ble_eq]; omega), Q9o N (s.take w) (by rw [List.length_take]; omega) (by omega)]
 simp only [Option.bind_some]
 have hlt := Jn (s.take w)
 have h4 : 256 ^ (s.take w).length ≤ 256 ^ 4 := Nat.pow_le_pow_right (by omega) (by rw [List.length_take]; omega)
 have h5 : (256 : Nat) ^ 4 = 4294967296 := rfl
 generalize hn : Vo (s.take w) = n at *
 rw [show IntKind.i64.wrap ((s.length : Int) - (w : Int)) = ((s.length - w : Nat) : Int) by rw [Zm _ (by omega)]; omega, Q6i _ (by omega)]
 by_cases h6 : s.length - w < n
 ·rw [if_pos (by omega), if_pos h6]; rfl
 have e1 : IntKind.i64.wrap ((w : Int) + IntKind.i64.wrap (n : Int)) = ((w + n : Nat) : Int) := by
  rw [Zm (n : Int) (by omega), Zm _ (by omega)]; push_cast; rfl
 rw [if_neg (by omega), if_neg h6]
 simp only [e1, Int.toNat_natCast]
 rw [if_pos (by simp; omega), if_pos (by simp [Nat.ble_eq]; omega)]
 have e2 : (s.take (w + n)).drop w = (s.drop w).take n := by rw [List.drop_take]; congr 1; omega
 simp only [e2]
 have hbl : ((s.drop w).take n).length = n := by rw [List.length_take, List.length_drop]; omega
 generalize hbody : (s.drop w).take n = body at *
 simp only [List.take_length]
 unfold Qlk
 by_cases h7 : body.length < w
 ·rw [if_pos (by omega), if_pos h7]; rfl
 rw [if_neg (by omega), if_neg h7, if_pos (by simp [Nat.ble_eq]; omega), Q9o N (body.take w) (by rw [List.length_take]; omega) (by omega)]
 simp only [Option.bind_some]
 rw [if_pos (by simp [Nat.ble_eq]; omega)]
 generalize hcnt : Vo (body.take w) = cnt at *
 by_cases h8 : 1000 < cnt
 ·rw [if_pos (by omega), if_pos h8]; rfl
 rw [if_neg (by omega), if_neg h8]
 simp only [Qpf]
 have hdl : (body.drop w).length ≤ 300000 := by rw [List.length_drop]; omega
 by_cases h23 : c.Kind = 23
 ·rw [if_pos h23]
  by_cases h9 : cnt % 2 ≠ 0
  ·rw [if_pos h9, if_pos ⟨h23, h9⟩]; rfl
  ·rw [if_neg h9, if_neg (show ¬ (c.Kind = 23 ∧ cnt % 2 ≠ 0) from fun h => h9 h.2), if_neg (by omega), if_neg (show ¬ c.Kind = 24 by omega)]
   have := Q6g (Lp := X8 R4 N c ((m + 1 : Nat) : Int) (n : Int) (cnt : Int)) (nx := fun body => R4 (-1) body (IntKind.i64.wrap (((m + 1 : Nat) : Int) - 1))) (v11 := (cnt : Int)) (k := c.Kind) (num := 0) (cnt := cnt) (tot := w + n) (rd := Zc (Ye m')) (fun _ _ _ _ => rfl) rfl (by omega) (fun s hs => by rw [Zm _ (by omega)]; exact h1 s hs) (Un hg).1 (fun s hs he => Qbh m' s hs he) (fun body l hf hz => by
    have := Qkp (N := N) (body := body) (l := l) (tot := w + n) hf hz hN rfl
    rw [h23, hw1, e1]; exact this) N 0 (body.drop w) [] (by omega) (by omega) hdl rfl (by simp) (by simp [Q0.szs])
   rw [Nat.sub_zero] at this
   exact this
 ·rw [if_neg h23, if_neg (show ¬ (c.Kind = 23 ∧ cnt % 2 ≠ 0) from fun h => h23 h.1)]
  by_cases h24 : c.Kind = 24
  ·rw [if_pos h24, if_pos h24]
   cases hd : body.drop w with
   | nil => rfl
   | cons b t =>
    rw [if_neg (by simp [Q1q]), show idx (b :: t) 0 = some b from rfl]
    simp only [Option.bind_some, Qoz, Qg8]
    rw [Q61 N _ (by omega)]
    simp only [Option.bind_some]
    cases ho : ofB (b.toNat : Int) with
    | false => rw [if_pos (by rfl), if_pos (.inl rfl)]; rfl
    | true =>
     rw [if_neg (by simp)]
     by_cases hb0 : b.toNat = 0
     ·rw [if_pos (by omega), if_pos (.inr hb0)]; rfl
     ·rw [if_neg (show ¬ ((b.toNat : Int) = 0) by omega), if_neg (show ¬ (true = false ∨ b.toNat = 0) by simp [hb0]), if_pos (show (Nat.ble 1 (b :: t).length && Nat.ble (b :: t).length (b :: t).length) = true by simp [Nat.ble_eq])]
      have hkb := (Qgc _ ho).kind
      have htl : t.length ≤ 300000 := by
       have := congrArg List.length hd
       rw [List.length_drop, List.length_cons] at this; omega
      have := Q6g (Lp := Xb R4 N c ((m + 1 : Nat) : Int) (n : Int) (cnt : Int) b (ofS (b.toNat : Int), true)) (nx := fun body => R4 (IntKind.i64.wrap (b.toNat : Int)) body (IntKind.i64.wrap (((m + 1 : Nat) : Int) - 1))) (v11 := (cnt : Int)) (k := c.Kind) (num := (ofS (b.toNat : Int)).Kind) (cnt := cnt) (tot := w + n) (rd := Ye m' (b.toNat : Int)) (fun _ _ _ _ => rfl) rfl (by omega) (fun s hs => by rw [Qg8, Zm _ (by omega)]; exact h2 _ s (by omega) hs) (hg _) (fun s hs he => Qif m' _ s hs he) (fun body l hf hz => by
       have := Qfi (body := body) (l := l) (k := c.Kind) (num := (ofS (b.toNat : Int)).Kind) (tot := w + n) h23 (a := ((w + n : Nat) : Int)) rfl
       rw [hw1, e1, show IntKind.u64.wrap (ofS (b.toNat : Int)).Kind = (ofS (b.toNat : Int)).Kind by rw [Q56]; omega]; exact this) N 0 t [] (by omega) (by omega) htl rfl (by simp) (by simp [Q0.szs])
      rw [Nat.sub_zero] at this
      simp only [List.drop_succ_cons, List.drop_zero]
      exact this
  ·rw [if_neg h24, if_neg h24]
   have := Q6g (Lp := Xc R4 N c ((m + 1 : Nat) : Int) (n : Int) (cnt : Int)) (nx := fun body => R4 (-1) body (IntKind.i64.wrap (((m + 1 : Nat) : Int) - 1))) (v11 := (cnt : Int)) (k := c.Kind) (num := 0) (cnt := cnt) (tot := w + n) (rd := Zc (Ye m')) (fun _ _ _ _ => rfl) rfl (by omega) (fun s hs => by rw [Zm _ (by omega)]; exact h1 s hs) (Un hg).1 (fun s hs he => Qbh m' s hs he) (fun body l hf hz => by
    have := Qfi (body := body) (l := l) (k := c.Kind) (num := 0) (tot := w + n) h23 (a := ((w + n : Nat) : Int)) rfl
    rw [hw1, e1]; exact this) N 0 (body.drop w) [] (by omega) (by omega) hdl rfl (by simp) (by simp [Q0.szs])
   rw [Nat.sub_zero] at this
   exact this
theorem Qfa {m N : Nat} {s : List UInt8} (hm : m ≤ 32) (hs : s.length ≤ 300000) (h : ∀ code t, t.length ≤ s.length → Yd N code t (m : Int) = some (Ye m code t)) : Ze (N + 1) s (m : Int) = some (Zc (Ye m) s) := by
 show Wl (Ze N) (Yd N) (Xa N) (Xk N) N s (m : Int) = _
 simp only [Wl, Qd, V0, Q1g, Wt]
 rw [if_neg (by omega), if_neg (by omega)]
 cases s with
 | nil => rfl
 | cons b t =>
  rw [if_neg (by simp [Q1q]), show idx (b :: t) 0 = some b from rfl]
  simp only [Option.bind_some]
  rw [if_pos (by simp [Nat.ble_eq]), List.take_length, Qg8]
  simp only [List.drop_succ_cons, List.drop_zero]
  rw [h _ t (by simp)]
  simp only [Option.bind_some, Zc]
  by_cases he : (Ye m (b.toNat : Int) t).2.2 = 0
  ·rw [if_neg (by simp [he]), if_neg (by simp [he])]
   obtain ⟨g1, g2, g3⟩ := Uq m (b.toNat : Int) t (by simp at hs; omega) he
   rw [Zm _ (by simp at hs; omega)]
  ·rw [if_pos he, if_pos he]; rfl
theorem Qlb : ∀ m : Nat, m ≤ 32 → ∀ N : Nat, 700000100 + 5 * m < N → ∀ (code : Int) (s : List UInt8), s.length ≤ 300000 → Yd N code s (m : Int) = some (Ye m code s) := by
 intro m
 induction m with
 | zero =>
  intro hm N hN code s hs
  obtain ⟨N, rfl⟩ : ∃ K, N = K + 1 := ⟨N - 1, by omega⟩
  show Yy (Ze N) (Yd N) (Xa N) (Xk N) N code s ((0 : Nat) : Int) = _
  simp only [Yy, Qd, V0, Q1g, Ve, Wt, Q61 N code (by omega), Option.bind_some, Ye]
  rw [if_neg (by omega), if_neg (by omega)]
  cases h1 : ofB code with
  | false => rfl
  | true =>
   simp only [Bool.not_true, Bool.false_eq_true, if_false, Bool.true_eq_false]
   cases h2 : (ofS code).Items with
   | false =>
    simp only [Bool.not_false, if_true]
    rw [Qcm N code s (by omega) (by omega) (by omega)]; rfl
   | true => rfl
 | succ m ih =>
  intro hm N hN code s hs
  obtain ⟨N, rfl⟩ : ∃ K, N = K + 5 := ⟨N - 5, by omega⟩
  show Yy (Ze (N + 4)) (Yd (N + 4)) (Xa (N + 4)) (Xk (N + 4)) (N + 4) code s ((m + 1 : Nat) : Int) = _
  simp only [Yy, Qd, V0, Q1g, Ve, Wt, Q61 (N + 4) code (by omega), Option.bind_some, Ye, Zm (((m + 1 : Nat) : Int) - 1) (show _ by omega)]
  rw [if_neg (by omega), if_neg (by omega)]
  cases h1 : ofB code with
  | false => rfl
  | true =>
   simp only [Bool.not_true, Bool.false_eq_true, if_false, Bool.true_eq_false]
   cases h2 : (ofS code).Items with
   | false =>
    simp only [Bool.not_false, if_true]
    rw [Qcm (N + 4) code s (by omega) (by omega) (by omega)]; rfl
   | true =>
    simp only [Bool.not_true, Bool.false_eq_true, if_false, Bool.true_eq_false]
    rw [if_neg (show ¬ (((m + 1 : Nat) : Int) = 0) by omega)]
    have em : (((m + 1 : Nat) : Int) - 1) = (m : Int) := by omega
    have hR : ∀ K, N + 1 ≤ K → ∀ t : List UInt8, t.length ≤ 300000 → Ze K t (m : Int) = some (Zc (Ye m) t) := fun K hK t ht => by
     obtain ⟨K, rfl⟩ : ∃ J, K = J + 1 := ⟨K - 1, by omega⟩
     exact Qfa (by omega) ht (fun code u hu => ih (by omega) K (by omega) code u (by omega))
    cases h4 : (ofS code).Sized with
    | true =>
     have hsh := (Gf h1 h2).1 h4
     rw [if_pos rfl, if_neg (show ¬ (ofS code).Kind = 25 by omega)]
     simp only [Bool.true_eq_false, if_false]
     show (X9 (Ze (N + 3)) (Yd (N + 3)) (Xa (N + 3)) (Xk (N + 3)) (N + 3) (ofS code) s ((m + 1 : Nat) : Int)).bind _ = _
     rw [Qhu (m := m) (m' := m) (c := ofS code) (by omega) hm hs hsh.1 hsh.2 (fun t ht => by
      rw [em]
      show Yx (Ze (N + 2)) (Yd (N + 2)) (Xa (N + 2)) (Xk (N + 2)) (N + 2) (-1) t (m : Int) = _
      simp only [Yx, Qd, V0]
      rw [if_pos (by decide), hR (N + 2) (by omega) t ht]; rfl) (fun code t hc ht => by
      rw [em]
      show Yx (Ze (N + 2)) (Yd (N + 2)) (Xa (N + 2)) (Xk (N + 2)) (N + 2) code t (m : Int) = _
      simp only [Yx, Qd, V0]
      rw [if_neg (by omega), ih (by omega) (N + 2) (by omega) code t ht]; rfl)]; rfl
    | false =>
     have hsh := (Gf h1 h2).2 h4
     simp only [Bool.false_eq_true, if_false, if_true]
     by_cases h22 : (ofS code).Kind = 22
     ·rw [if_pos h22, if_neg (show ¬ (ofS code).Kind = 25 by omega), h22]
     ·rw [if_neg h22, if_pos (show (ofS code).Kind = 25 by omega), em, hR (N + 4) (by omega) s hs]
      have hgr := (Un (Uq m)).1
      simp only [Option.bind_some]
      unfold Qg9
      rw [Ws]
      have hg1 := hgr s (by omega)
      generalize hr : Zc (Ye m) s = r at hg1 ⊢
      obtain ⟨x, n, e⟩ := r
      simp only [] at hg1 ⊢
      by_cases he : e = 0
      ·subst he
       obtain ⟨g1, g2, g3⟩ := hg1 rfl
       obtain ⟨n, rfl⟩ := Int.eq_ofNat_of_zero_le g1
       simp only [Int.toNat_natCast, List.take_length]
       rw [if_neg (by simp), if_pos (by simp), if_pos (by simp [Nat.ble_eq]; omega), hR (N + 4) (by omega) (s.drop n) (by rw [List.length_drop]; omega)]
       simp only [Option.bind_some]
       rw [if_neg (show ¬ ((0 : Int) ≠ 0) by simp), Ws]
       have hg2 := hgr (s.drop n) (by rw [List.length_drop]; omega)
       generalize hr2 : Zc (Ye m) (s.drop n) = r2 at hg2 ⊢
       obtain ⟨x2, n2, e2⟩ := r2
       simp only [] at hg2 ⊢
       by_cases he2 : e2 = 0
       ·subst he2
        obtain ⟨q1, q2, q3⟩ := hg2 rfl
        obtain ⟨n2, rfl⟩ := Int.eq_ofNat_of_zero_le q1
        rw [List.length_drop] at q2
        rw [if_neg (by simp), if_neg (show ¬ ((0 : Int) ≠ 0) by simp), Ws]
        simp only []
        rw [if_neg (by simp), Zm _ (by omega)]
        simp only [Int.toNat_natCast, List.length_drop, List.nil_append, List.cons_append]
        congr 3
        omega
       ·rw [if_pos he2, if_pos (show e2 ≠ 0 from he2)]
        simp only []
        rw [if_pos (show e2 ≠ 0 from he2)]; rfl
      ·rw [if_pos he, if_pos (show e ≠ 0 from he)]
       simp only []
       rw [if_pos (show e ≠ 0 from he)]; rfl
theorem Qi7 (m N : Nat) (s : List UInt8) (hm : m ≤ 32) (hN : 700000200 + 5 * m < N) (hs : s.length ≤ 300000) : Ze N s (m : Int) = some (Zc (Ye m) s) := by
 obtain ⟨N, rfl⟩ : ∃ K, N = K + 1 := ⟨N - 1, by omega⟩
 exact Qfa hm hs (fun code t ht => Qlb m hm N (by omega) code t (by omega))
end
end Go.Av
namespace Go.Av
noncomputable section
open Go.Proofs
set_option maxRecDepth 100000
end
end Go.Av
namespace Go.Av
noncomputable section
open Go.Proofs
set_option maxRecDepth 100000
def Qqf (code : Int) (v : Q0) (b : List UInt8) : Bool :=
 if (ofS code).Items = false then Q4w code v else if (ofS code).Width = 0 then decide (v.Items.length = 0)
 else decide ((ofS code).Width = 4 ∨ (v.Items.length < 256 ∧ b.length + 1 < 256))
def Qot (code : Int) (v : Q0) (b : List UInt8) : List UInt8 :=
 if (ofS code).Items = false then (Qsr code v).1 else if (ofS code).Sized = false then []
 else Q98 (b.length + (ofS code).Width.toNat) (ofS code).Width.toNat ++ (Q98 v.Items.length (ofS code).Width.toNat ++ b)
def Qs2 (c : Int) (l : List (Q0 × List UInt8)) : Bool := l.all fun p => Qqf c p.1 p.2
def Qf5 (k : Int) (l : List (Q0 × List UInt8)) : Int := ((Qp7 k).find? (fun c => Qs2 c l)).getD 0
def Qpq (c : Int) : UInt8 := UInt8.ofNat c.toNat
def Qsd (n : Int) (l : List (Q0 × List UInt8)) : List UInt8 := Qpq (Qf5 n l) :: (l.map fun p => Qot (Qf5 n l) p.1 p.2).flatten
def Qr2 (k n : Int) (is : List Q0) (l : List (List UInt8 × List UInt8)) : List UInt8 := if k = 24 then Qsd n (is.zip (l.map (·.1))) else if k = 25 then [] else (l.map (·.2)).flatten
def Qse (v : Q0) (b : List UInt8) (l : List (List UInt8 × List UInt8)) : List UInt8 := if v.Kind = 25 then 0 :: (l.map (·.2)).flatten else Qpq (Qf5 v.Kind [(v, b)]) :: Qot (Qf5 v.Kind [(v, b)]) v b
mutual
def Q0.enc : Q0 → List UInt8 × List UInt8
 | .mk k n t is => (Qr2 k n is (Q0.encs is), Qse ⟨k, n, t, is⟩ (Qr2 k n is (Q0.encs is)) (Q0.encs is))
def Q0.encs : List Q0 → List (List UInt8 × List UInt8)
 | [] => []
 | v :: l => v.enc :: Q0.encs l
end
end
end Go.Av
namespace Go.Av
noncomputable section
open Go.Proofs
set_option maxRecDepth 100000
mutual
def Q0.wgt : Q0 → Nat
 | .mk _ _ t is => t.length + 30 + Q0.wgts is
def Q0.wgts : List Q0 → Nat
 | [] => 0
 | v :: l => v.wgt + Q0.wgts l
end
theorem Qf9 : ∀ (l : List Q0), ∀ x ∈ l, x.wgt ≤ Q0.wgts l
 | v :: l, x, hx => by
  simp only [Q0.wgts]
  rcases List.mem_cons.1 hx with rfl | hx
  ·omega
  ·have := Qf9 l x hx; omega
end
end Go.Av
namespace Go.Av
noncomputable section
open Go.Proofs
set_option maxRecDepth 100000
end
end Go.Av
namespace Go.Av
noncomputable section
open Go.Proofs
set_option maxRecDepth 100000
end
end Go.Av
namespace Go.Av
noncomputable section
open Go.Proofs
set_option maxRecDepth 100000
end
end Go.Av
