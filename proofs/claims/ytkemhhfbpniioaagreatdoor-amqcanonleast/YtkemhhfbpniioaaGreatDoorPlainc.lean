/- The law. Part of a proof of a given statement: for every input the law returns true and the arguments read as before; no condition beyond the given row. -/
import Derived.Test.YtkemhhfbpniioaaGreatDoorPlainb
namespace Go.Av
noncomputable section
open Go.Proofs
set_option maxRecDepth 100000
theorem Q39 {α : Type} (f : Q0 → List α) (l : List Q0) (i : Nat) (h : i < l.length) : ((l.take i).map f).flatten ++ f l[i] = ((l.take (i + 1)).map f).flatten := by
 rw [List.take_succ_eq_append_getElem h, List.map_append, List.flatten_append]; simp
theorem Qcm (f : Q0 → List UInt8) (l : List Q0) (i : Nat) : ((l.take i).map f).flatten.length ≤ (l.map f).flatten.length := by
 conv => rhs; rw [← List.take_append_drop i l, List.map_append, List.flatten_append, List.length_append]
 omega
theorem Q6v {v : Q0} (hw : v.wgt < 4000000000) : v.inn.length < 1000000000000000000 ∧ (v.Items.map Q0.byt).flatten.length < 1000000000000000000 ∧ (∀ c, (v.Items.map fun x => Zw c x x.inn).flatten.length < 1000000000000000000) ∧ ∀ x ∈ v.Items, x.wgt < 4000000000 := by
 have hwe := v.wgt_eq
 have h1 := (Q4q v).1
 have s1 : ∀ (f : Q0 → List UInt8) (l : List Q0), (∀ x ∈ l, (f x).length ≤ x.wgt) → (l.map f).flatten.length ≤ Q0.wgts l := by
  intro f l
  induction l with
  | nil => intro _; simp
  | cons x l ihl =>
   intro h
   have h1 := h x (.head _)
   have h2 := ihl (fun y hy => h y (.tail _ hy))
   simp only [List.map_cons, List.flatten_cons, List.length_append, Q0.wgts]; omega
 refine ⟨by omega, ?_, fun c => ?_, fun x hx => by have := Qkv hx; omega⟩
 ·have := s1 Q0.byt v.Items (fun x _ => (Q4q x).2.1); omega
 ·have := s1 (fun x => Zw c x x.inn) v.Items (fun x _ => by have := (Q4q x).2.2 c; omega); omega
end
end Go.Av
namespace Go.Av
noncomputable section
open Go.Proofs
set_option maxRecDepth 100000
abbrev Qe2 := Q1
mutual
def Q0.frm : Q0 → Qe2
 | .mk k n t is => ⟨⟨k, n, t, is⟩, Q0.frms is, if k = 24 then Q0.elm ⟨k, n, t, is⟩ else 0, if 22 ≤ k ∧ k ≤ 24 then ((Q0.inn ⟨k, n, t, is⟩).length : Int) else 0⟩
def Q0.frms : List Q0 → List Qe2
 | [] => []
 | v :: l => v.frm :: Q0.frms l
end
theorem Qn3 : ∀ l, Q0.frms l = l.map Q0.frm
 | [] => rfl
 | v :: l => by rw [Q0.frms, Qn3 l]; rfl
theorem Q7o (v : Q0) : v.frm = ⟨v, v.Items.map Q0.frm, if v.Kind = 24 then v.elm else 0, if 22 ≤ v.Kind ∧ v.Kind ≤ 24 then (v.inn.length : Int) else 0⟩ := by
 cases v; rw [Q0.frm, Qn3]
theorem Qir (v : Q0) : v.frm.v = v := by rw [Q7o]
theorem Q3u (v : Q0) : v.frm.kids = v.Items.map Q0.frm := by rw [Q7o]
theorem Q0f (l : List Qe2) : (Q1.rows l).length = l.length := by rw [Q1.rows_eq, Jp]
theorem Qof (N : Nat) (code : Int) (v : Q0) (hc : ofB code = true) (hn : okU v.N') (h : v.Text.length < N) (hb : v.Text.length < 4611686018427387904) (hk : (ofS code).Kind ≠ 25) (hi : (ofS code).Items = true → 22 ≤ v.Kind ∧ v.Kind ≤ 24) (hl : v.inn.length < 1000000000000000000) :
  Y3 N v.frm code = some (Uq code v v.inn) := by
 simp only [Y3, Z7, Qir, Option.bind_some, Qkc N code v hn h hb, Qa, Ww, Q0f, Q3u, List.length_map, Uq]
 by_cases hi' : (ofS code).Items = false
 ·rw [if_pos (by simp [hi']), if_pos hi']
 ·have hi' : (ofS code).Items = true := by simpa using hi'
  rw [if_neg (show ¬ ((!(ofS code).Items) = true) by simp [hi']), if_neg hk, if_neg (show ¬ ((ofS code).Items = false) by simp [hi'])]
  by_cases hs : (ofS code).Sized = true
  ·have hw := ((Wf hc hi').1 hs).1
   rw [if_neg (show ¬ ((!(ofS code).Sized) = true) by simp [hs]), if_neg (show ¬ (ofS code).Width = 0 by omega)]
   by_cases h4 : (ofS code).Width = 4
   ·rw [if_pos h4]; simp [h4]
   ·rw [if_neg h4, Q7o]
    simp only [if_pos (hi hi')]
    rw [Qv _ (by omega)]
    split
    ·rename_i h5
     rw [Q6g] at h5
     congr 1
     rw [Bool.eq_iff_iff, Q6g]; simp [h4]; omega
    ·rename_i h5
     rw [Q6g] at h5
     congr 1
     symm
     rw [decide_eq_false_iff_not]; omega
  ·have hs : (ofS code).Sized = false := by simpa using hs
   rw [if_pos (show (!(ofS code).Sized) = true by simp [hs]), if_pos (Qb7 hc hi' hs)]
   congr 1
   rw [Bool.eq_iff_iff, Ww]; simp
theorem Qbp {N : Nat} {k0 : Int → Option Int} {l : List Qe2} {s54 code : Int} {P : Qe2 → Bool} (hb : l.length < 1000000000) (hR : ∀ f ∈ l, Y3 N f code = some (P f)) : ∀ (n k : Nat) (all : Bool), k ≤ l.length → l.length - k < n →
  Xn N k0 l s54 code n all (k : Int) = if (all && (l.drop k).all P) = true then some code else k0 (IntKind.i64.wrap (s54 + 1))
 | 0, k, all, _, h => by omega
 | n + 1, k, all, hk, hn => by
  simp only [Xn, Qa, Ve, Q0f, Wo]
  by_cases h : k < l.length
  ·rw [if_pos (by omega), List.getElem?_eq_getElem h, List.drop_eq_getElem_cons h]
   simp only [Option.bind_some, hR _ (List.getElem_mem h)]
   rw [Qv _ (by omega)]
   cases all with
   | false =>
    have ih := Qbp (N := N) (k0 := k0) (s54 := s54) hb hR n (k + 1) false (by omega) (by omega)
    rw [if_neg (by simp)]
    simp only [Bool.false_and] at ih ⊢
    exact_mod_cast ih
   | true =>
    have ih := Qbp (N := N) (k0 := k0) (s54 := s54) hb hR n (k + 1) (P l[k]) (by omega) (by omega)
    rw [if_pos rfl]
    simp only [List.all_cons, Bool.true_and]
    exact_mod_cast ih
  ·rw [if_neg (by omega), List.drop_of_length_le (by omega)]
   cases all <;> simp
theorem Qgo {N : Nat} {l : List Qe2} {v1 : List Int} {P : Int → Qe2 → Bool} (hb : l.length < 1000000000) (hb1 : v1.length < 1000) (hN : l.length < N) (hR : ∀ c ∈ v1, ∀ f ∈ l, Y3 N f c = some (P c f)) : ∀ (n i : Nat), i ≤ v1.length → v1.length - i < n →
  Yp N l v1 n (i : Int) = some (((v1.drop i).find? (fun c => l.all (P c))).getD 0)
 | 0, i, _, h => by omega
 | n + 1, i, hi, hn => by
  simp only [Yp, Qa, Ve, Jp, Wo]
  by_cases h : i < v1.length
  ·rw [if_pos (by omega), List.getElem?_eq_getElem h]
   simp only [Option.bind_some]
   have := Qbp (k0 := Yp N l v1 n) (s54 := (i : Int)) hb (hR _ (List.getElem_mem h)) N 0 true (by omega) (by omega)
   rw [show (0 : Int) = ((0 : Nat) : Int) from rfl, this, List.drop_zero, Bool.true_and, List.drop_eq_getElem_cons h, List.find?_cons]
   cases l.all (P v1[i]) with
   | true => simp
   | false =>
    rw [if_neg (by simp), Qv _ (by omega)]
    exact_mod_cast Qgo hb hb1 hN hR n (i + 1) (by omega) (by omega)
  ·rw [if_neg (by omega), List.drop_of_length_le (by omega)]; simp
theorem Qgz (N : Nat) (k : Int) (l : List Qe2) (P : Int → Qe2 → Bool) (hb : l.length < 1000000000) (hN : l.length < N) (hN2 : 10 < N) (hR : ∀ c ∈ W2 k, ∀ f ∈ l, Y3 N f c = some (P c f)) : V7 N k l = some (((W2 k).find? (fun c => l.all (P c))).getD 0) := by
 have hc := Qiy k
 simp only [V7, Q0s, Option.bind_some]
 have := Qgo (N := N) (v1 := W2 k) hb (by omega) hN hR N 0 (by omega) (by omega)
 rw [List.drop_zero] at this
 exact this
theorem Qeh (N : Nat) (k : Int) (l : List Q0) (hk : k ≠ 25) (hb : l.length < 1000000000) (hN : l.length < N) (hN2 : 10 < N) (hl : ∀ x ∈ l, x.Kind = k ∧ k ≤ 24 ∧ okU x.N' ∧ x.Text.length < N ∧ x.Text.length < 4611686018427387904 ∧ x.inn.length < 1000000000000000000) :
  V7 N k (l.map Q0.frm) = some (Q0c k (l.map fun x => (x, x.inn))) := by
 rw [Qgz N k (l.map Q0.frm) (fun c f => Uq c f.v f.v.inn) (by simpa using hb) (by simpa using hN) hN2 (fun c hc f hf => by
  obtain ⟨x, hx, rfl⟩ := List.mem_map.1 hf
  obtain ⟨h1, h2, h3, h4, h5, h6⟩ := hl x hx
  obtain ⟨d1, d2, d3⟩ := Q0d _ _ hc
  rw [Qir]
  exact Qof N c x d1 h3 h4 h5 (by omega) (fun hi => by rw [(Q5p c d1).items, d3] at hi; simp at hi; omega) h6)]
 unfold Q0c Qf7
 congr 3
 funext c
 rw [List.all_map, List.all_map]
 congr 1
 funext x
 simp only [Function.comp, Qir]
theorem Qkb : W2 25 = [0] := by decide +kernel
theorem Qhc (N : Nat) (v : Q0) (m : Int) (hf : Fine v) (hc : Yq v m = 0) (hw : v.wgt < 4000000000) (hN : 300100 ≤ N) : W7 N v.frm = some (if v.Kind = 25 then 0 else v.cod) := by
 have ht := hf.text
 have hk := Q40 hc
 simp only [W7, Qir]
 by_cases h5 : v.Kind = 25
 ·rw [if_pos h5, h5, Qgz N 25 [v.frm] (fun _ _ => true) (by simp) (by simp; omega) (by omega) (fun c hc f hf => by
   rw [Qkb] at hc
   have : c = 0 := by simpa using hc
   subst this
   obtain ⟨o1, o2, o3⟩ := of0
   simp only [Y3, Z7, Option.bind_some, Qa, Ww]
   rw [if_neg (by simp [o3]), if_pos o2]), Qkb]
  rfl
 ·rw [if_neg h5]
  have := Qeh N v.Kind [v] h5 (by simp) (by simp; omega) (by omega) (fun x hx => by
   have : x = v := by simpa using hx
   subst this
   exact ⟨rfl, by omega, hf.num, by omega, by omega, (Q6v hw).1⟩)
  rw [show [v.frm] = [v].map Q0.frm from rfl, this]
  rfl
def Q00 (s : List UInt8) : List Int := s.map fun b => (b.toNat : Int)
theorem Q2p (s t : List UInt8) : Q00 (s ++ t) = Q00 s ++ Q00 t := by simp [Q00]
theorem Q1b (s : List UInt8) : (Q00 s).length = s.length := by simp [Q00]
theorem Qn0 (N : Nat) (b : List Int) (s : List UInt8) (h : b.length + s.length < 17592186040000) : Xp N ⟨b⟩ s = some ((), ⟨b ++ Q00 s⟩) := by
 simp only [Xp, Qa]
 split
 ·rename_i h1
  have : s = [] := List.length_eq_zero_iff.1 (by simpa using h1)
  subst this
  simp [Q00]
 ·rw [if_pos (by rw [Nat.ble_eq]; omega)]; rfl
theorem Q1k (N : Nat) (b : List Int) (n w : Nat) (hn : n < 9223372036854775808) (hw : w ≤ 8) (hN : 10 < N) (h : b.length < 17592186030000) : Za N ⟨b⟩ (n : Int) (w : Int) = some ((), ⟨b ++ Q00 (Ua n w)⟩) := by
 simp only [Za]
 rw [G6 _ (by omega), Qfs N n w (by omega) hw hN]
 simp only [Option.bind_some]
 rw [Qn0 N b _ (by rw [Y7]; omega)]
 rfl
theorem Qsp {c : Int} (h : 0 ≤ c ∧ c < 256) : Ua c.toNat 1 = [Q7w c] := by
 rw [Q6w]
 simp only [Nat.pow_zero, Nat.div_one, Ua, Q7w]
 rw [Nat.mod_eq_of_lt (by omega)]
theorem Qty {R : Q2 → Qe2 → Option (Unit × Q2)} {N : Nat} {f : Qe2} {l : List Q0} (hk : f.kids = l.map Q0.frm) (hb : l.length < 1000000000) {b : List Int} (hbl : b.length + (l.map Q0.byt).flatten.length < 17592186030000)
  (hR : ∀ x ∈ l, ∀ b : List Int, b.length + x.byt.length < 17592186030000 → R ⟨⟨b⟩⟩ x.frm = some ((), ⟨⟨b ++ Q00 x.byt⟩⟩)) : ∀ (n i : Nat), i ≤ l.length → l.length - i < n →
  Y9 R N f n (i : Int) (b ++ Q00 ((l.take i).map Q0.byt).flatten) = some ((), ⟨⟨b ++ Q00 (l.map Q0.byt).flatten⟩⟩) ∧
  Yb R N f n (i : Int) (b ++ Q00 ((l.take i).map Q0.byt).flatten) = some ((), ⟨⟨b ++ Q00 (l.map Q0.byt).flatten⟩⟩)
 | 0, i, _, h => by omega
 | n + 1, i, hi, hn => by
  simp only [Y9, Yb, Qa, Ve, Q0f, hk, List.length_map, Wo, List.getElem?_map]
  by_cases h : i < l.length
  ·have hft := Q39 Q0.byt l i h
   have h1 := Qcm Q0.byt l (i + 1)
   rw [← hft, List.length_append] at h1
   rw [if_pos (by omega), if_pos (by omega), List.getElem?_eq_getElem h]
   simp only [Option.map_some, Option.bind_some, hR _ (List.getElem_mem h) _ (show (b ++ Q00 ((l.take i).map Q0.byt).flatten).length + l[i].byt.length < 17592186030000 by rw [List.length_append, Q1b]; omega)]
   rw [Qv _ (by omega), List.append_assoc, ← Q2p, hft]
   obtain ⟨ih1, ih2⟩ := Qty (N := N) hk hb hbl hR n (i + 1) (by omega) (by omega)
   exact ⟨by exact_mod_cast ih1, by exact_mod_cast ih2⟩
  ·rw [if_neg (by omega), if_neg (by omega), List.take_of_length_le (by omega)]
   exact ⟨rfl, rfl⟩
theorem Quq {R : Q2 → Int → Qe2 → Option (Unit × Q2)} {N : Nat} {f : Qe2} {l : List Q0} {c : Int} (hk : f.kids = l.map Q0.frm) (hel : f.element = c) (hb : l.length < 1000000000) {b : List Int} (hbl : b.length + (l.map fun x => Zw c x x.inn).flatten.length < 17592186030000)
  (hR : ∀ x ∈ l, ∀ b : List Int, b.length + (Zw c x x.inn).length < 17592186030000 → R ⟨⟨b⟩⟩ c x.frm = some ((), ⟨⟨b ++ Q00 (Zw c x x.inn)⟩⟩)) : ∀ (n i : Nat), i ≤ l.length → l.length - i < n →
  Ya R N f n (i : Int) (b ++ Q00 ((l.take i).map fun x => Zw c x x.inn).flatten) = some ((), ⟨⟨b ++ Q00 (l.map fun x => Zw c x x.inn).flatten⟩⟩)
 | 0, i, _, h => by omega
 | n + 1, i, hi, hn => by
  simp only [Ya, Qa, Ve, Q0f, hk, hel, List.length_map, Wo, List.getElem?_map]
  by_cases h : i < l.length
  ·have hft := Q39 (fun x => Zw c x x.inn) l i h
   have h1 := Qcm (fun x => Zw c x x.inn) l (i + 1)
   rw [← hft, List.length_append] at h1
   rw [if_pos (by omega), List.getElem?_eq_getElem h]
   simp only [Option.map_some, Option.bind_some, hR _ (List.getElem_mem h) _ (show (b ++ Q00 ((l.take i).map fun x => Zw c x x.inn).flatten).length + (Zw c l[i] l[i].inn).length < 17592186030000 by rw [List.length_append, Q1b]; omega)]
   rw [Qv _ (by omega), List.append_assoc, ← Q2p, hft]
   exact_mod_cast Quq (N := N) hk hel hb hbl hR n (i + 1) (by omega) (by omega)
  ·rw [if_neg (by omega), List.take_of_length_le (by omega)]
theorem Qm6 {code : Int} (h : ofB code = true) (hi : (ofS code).Items = true) (hs : (ofS code).Sized = true) : ∃ w : Nat, (ofS code).Width = (w : Int) ∧ w ≤ 4 := by
 rcases ((Wf h hi).1 hs).1 with h | h
 ·exact ⟨1, h, by omega⟩
 ·exact ⟨4, h, by omega⟩
def WP (v : Q0) : Prop :=
  (∀ c, (ofB c = true ∧ (ofS c).Kind = v.Kind ∧ v.Kind ≠ 25 ∧ Uq c v v.inn = true) → ∀ N, 2 * v.sz + 300999 ≤ N → ∀ b : List Int, b.length + (Zw c v v.inn).length < 17592186030000 → Xg N ⟨⟨b⟩⟩ c v.frm = some ((), ⟨⟨b ++ Q00 (Zw c v v.inn)⟩⟩)) ∧
  ∀ N, 2 * v.sz + 301000 ≤ N → ∀ b : List Int, b.length + v.byt.length < 17592186030000 → Zf N ⟨⟨b⟩⟩ v.frm = some ((), ⟨⟨b ++ Q00 v.byt⟩⟩)
theorem Ql8 (v : Q0) : ∀ m : Int, Fine v → Yq v m = 0 → v.wgt < 4000000000 → v.sz < 1000000000 → WP v := by
 induction v using Q0.ind with
 | h v ih =>
  intro m hf hc hw hz
  have hs := v.sz_eq
  have hsl := Q0.szs_len v.Items
  obtain ⟨l1, l2, l3, l4⟩ := Q6v hw
  have htx := hf.text
  have hit : ∀ x ∈ v.Items, ∃ m', Yq x m' = 0 := fun x hx => by
   rcases Uz hc with ⟨k1, k2, k3⟩ | ⟨_, _, _, _, _, _, k7⟩
   ·rw [(U6 k3).2.2.2.1] at hx; cases hx
   ·exact ⟨_, (k7 x hx).1⟩
  have hsx : ∀ x ∈ v.Items, x.sz + 1 ≤ v.sz := fun x hx => by have := Q0.szs_mem _ x hx; omega
  have hI : ∀ x ∈ v.Items, WP x := fun x hx => by
   obtain ⟨m', hm⟩ := hit x hx
   exact ih x hx m' (hf.items x hx) hm (l4 x hx) (by have := hsx x hx; omega)
  have hP : ∀ c, (ofB c = true ∧ (ofS c).Kind = v.Kind ∧ v.Kind ≠ 25 ∧ Uq c v v.inn = true) → ∀ N, 2 * v.sz + 300999 ≤ N → ∀ b : List Int, b.length + (Zw c v v.inn).length < 17592186030000 → Xg N ⟨⟨b⟩⟩ c v.frm = some ((), ⟨⟨b ++ Q00 (Zw c v v.inn)⟩⟩) := by
   rintro c ⟨c1, c2, c3, c4⟩ N hN b hb
   obtain ⟨N, rfl⟩ : ∃ N', N = N' + 1 := ⟨N - 1, by omega⟩
   show Yd (Zf N) (Xg N) N ⟨⟨b⟩⟩ c v.frm = _
   simp only [Yd, Z7, Qir, Option.bind_some, Qa, Ww, Q0f, Q3u, List.length_map]
   have hd : Zw c v v.inn = if (ofS c).Items = false then (Qqg c v).1 else if (ofS c).Sized = false then [] else Ua (v.inn.length + (ofS c).Width.toNat) (ofS c).Width.toNat ++ (Ua v.Items.length (ofS c).Width.toNat ++ v.inn) := rfl
   by_cases hi : (ofS c).Items = false
   ·rw [if_pos (by simp [hi]), Qso N c v hf.num (by omega) (by omega) (by omega)]
    rw [if_pos hi] at hd
    rw [hd] at hb ⊢
    simp only [Option.bind_some]
    rw [Qn0 N b _ (by omega)]
    rfl
   ·have hi : (ofS c).Items = true := by simpa using hi
    rw [if_neg (by simp [hi])]
    rw [if_neg (by simp [hi])] at hd
    have hkk : 22 ≤ v.Kind ∧ v.Kind ≤ 24 := by
     have h1 := hi
     rw [(Q5p c c1).items, c2] at h1
     have := Q40 hc
     simp at h1; omega
    by_cases hs' : (ofS c).Sized = true
    ·rw [if_pos hs']
     rw [if_neg (by simp [hs'])] at hd
     obtain ⟨w, hw1, hw2⟩ := Qm6 c1 hi hs'
     rw [hw1, Int.toNat_natCast] at hd
     rw [hd] at hb ⊢
     simp only [List.length_append, Y7] at hb
     have hin : v.frm.inner = (v.inn.length : Int) := by rw [Q7o]; simp only [if_pos hkk]
     rw [hw1, hin, Qv _ (by omega), show ((w : Int) + (v.inn.length : Int)) = ((v.inn.length + w : Nat) : Int) by push_cast; omega,
      Q1k N b _ w (by omega) (by omega) (by omega) (by omega)]
     simp only [Option.bind_some]
     rw [Q1k N _ _ w (by omega) (by omega) (by omega) (by rw [List.length_append, Q1b, Y7]; omega)]
     simp only [Option.bind_some, c2]
     by_cases h4 : v.Kind = 24
     ·rw [if_pos h4]
      obtain ⟨e1, e2⟩ := Qmt hf hc h4
      obtain ⟨d1, d2, d3⟩ := Q0d _ _ e1
      have hr := Q38 d1
      have hel : v.frm.element = v.elm := by rw [Q7o]; simp only [if_pos h4]
      have hin2 := Q3k v
      rw [if_pos h4] at hin2
      have hl2 := congrArg List.length hin2
      simp only [List.length_cons] at hl2
      rw [hel, show v.elm = ((v.elm.toNat : Nat) : Int) by omega, show (1 : Int) = ((1 : Nat) : Int) from rfl,
       Q1k N _ _ 1 (by omega) (by omega) (by omega) (by simp only [List.length_append, Q1b, Y7]; omega)]
      simp only [Option.bind_some]
      rw [Qsp hr]
      rcases Uz hc with ⟨k1, k2, k3⟩ | ⟨k1, k2, k3, k4, k5, k6, k7⟩
      ·omega
      have hnn := (Q08 k4).2.1 h4
      have := Quq (R := Xg N) (N := N) (f := v.frm) (l := v.Items) (c := v.elm) (Q3u v) hel (by omega) (b := b ++ Q00 (Ua (v.inn.length + w) w) ++ Q00 (Ua v.Items.length w) ++ Q00 [Q7w v.elm])
       (by simp only [List.length_append, Q1b, Y7, List.length_cons, List.length_nil]; omega)
       (fun x hx b' hb' => (hI x hx).1 v.elm ⟨d1, by
        have := (k7 x hx).2 h4
        rw [Q1n (k7 x hx).1] at this
        rw [d3, this], by
        have := (k7 x hx).2 h4
        rw [Q1n (k7 x hx).1] at this
        omega, e2 x hx⟩ N (by have := hsx x hx; omega) b' hb') N 0 (by omega) (by omega)
      simp only [List.take_zero, List.map_nil, List.flatten_nil, Q00, List.append_nil] at this
      have e : (b ++ Q00 (Ua (v.inn.length + w) w) ++ Q00 (Ua v.Items.length w) ++ Q00 [Q7w v.elm] ++ Q00 ((v.Items.map fun x => Zw v.elm x x.inn).flatten)) = b ++ Q00 (Ua (v.inn.length + w) w ++ (Ua v.Items.length w ++ v.inn)) := by
       have hi3 : Q00 v.inn = Q00 [Q7w v.elm] ++ Q00 ((v.Items.map fun x => Zw v.elm x x.inn).flatten) := by rw [← Q2p]; exact congrArg Q00 hin2
       rw [Q2p, Q2p, hi3]
       simp only [List.append_assoc]
      rw [← e]
      exact this
     ·rw [if_neg h4]
      have hin2 := Q3k v
      rw [if_neg h4, if_neg c3] at hin2
      have hl2 := congrArg List.length hin2
      have := (Qty (R := Zf N) (N := N) (f := v.frm) (l := v.Items) (Q3u v) (by omega) (b := b ++ Q00 (Ua (v.inn.length + w) w) ++ Q00 (Ua v.Items.length w))
       (by simp only [List.length_append, Q1b, Y7]; omega)
       (fun x hx b' hb' => (hI x hx).2 N (by have := hsx x hx; omega) b' hb') N 0 (by omega) (by omega)).1
      simp only [List.take_zero, List.map_nil, List.flatten_nil, Q00, List.append_nil] at this
      have e : (b ++ Q00 (Ua (v.inn.length + w) w) ++ Q00 (Ua v.Items.length w) ++ Q00 (v.Items.map Q0.byt).flatten) = b ++ Q00 (Ua (v.inn.length + w) w ++ (Ua v.Items.length w ++ v.inn)) := by
       rw [Q2p, Q2p, ← hin2]
       simp only [List.append_assoc]
      rw [← e]
      exact this
    ·have hs' : (ofS c).Sized = false := by simpa using hs'
     rw [if_neg (by simp [hs'])]
     rw [if_pos hs'] at hd
     have hk := (Wf c1 hi).2 hs'
     unfold Uq at c4
     rw [if_neg (by simp [hi]), if_pos (Qb7 c1 hi hs')] at c4
     have hl0 : v.Items = [] := List.length_eq_zero_iff.1 (by simpa using c4)
     rw [hd, if_neg (by omega)]
     have := (Qty (R := Zf N) (N := N) (f := v.frm) (l := v.Items) (Q3u v) (by omega) (b := b) (by rw [hl0]; simp; omega) (fun x hx => by rw [hl0] at hx; cases hx) N 0 (by omega) (by omega)).2
     rw [hl0] at this
     simpa [Q00] using this
  refine ⟨hP, fun N hN b hb => ?_⟩
  obtain ⟨N, rfl⟩ : ∃ N', N = N' + 1 := ⟨N - 1, by omega⟩
  show W3 (Zf N) (Xg N) N ⟨⟨b⟩⟩ v.frm = _
  simp only [W3, Qhc N v m hf hc hw (by omega), Option.bind_some]
  have hbe := Qav v
  have hbl := congrArg List.length hbe
  by_cases h5 : v.Kind = 25
  ·rw [if_pos h5] at hbe hbl ⊢
   simp only [List.length_cons] at hbl
   have hn := Q1k N b 0 1 (by omega) (by omega) (by omega) (by omega)
   rw [show ((0 : Nat) : Int) = 0 from rfl, show ((1 : Nat) : Int) = 1 from rfl] at hn
   rw [hn]
   simp only [Option.bind_some]
   obtain ⟨N, rfl⟩ : ∃ N', N = N' + 1 := ⟨N - 1, by omega⟩
   show ((Yd (Zf N) (Xg N) N ⟨⟨b ++ Q00 (Ua 0 1)⟩⟩ 0 v.frm).bind _) = _
   obtain ⟨o1, o2, o3⟩ := of0
   have o4 : (ofS 0).Sized = false := by decide +kernel
   simp only [Yd, Z7, Option.bind_some, Qa, Ww]
   rw [if_neg (by simp [o3]), if_neg (by simp [o4]), if_neg (by omega)]
   have := (Qty (R := Zf N) (N := N) (f := v.frm) (l := v.Items) (Q3u v) (by omega) (b := b ++ Q00 (Ua 0 1))
    (by simp only [List.length_append, Q1b, Y7]; omega)
    (fun x hx b' hb' => (hI x hx).2 N (by have := hsx x hx; omega) b' hb') N 0 (by omega) (by omega)).2
   simp only [List.take_zero, List.map_nil, List.flatten_nil, Q00, List.append_nil] at this
   have h0 : (((0 : Nat) : Int)) = 0 := rfl
   rw [h0] at this
   simp only [Q00] at *
   rw [this]
   simp only [Option.bind_some]
   rw [hbe]
   simp [Ua]
  ·rw [if_neg h5] at hbe hbl ⊢
   simp only [List.length_cons] at hbl
   obtain ⟨g1, g2⟩ := Qhh hf hc h5
   obtain ⟨d1, d2, d3⟩ := Q0d _ _ g1
   have hr := Q38 d1
   have hn := Q1k N b v.cod.toNat 1 (by omega) (by omega) (by omega) (by omega)
   rw [Qsp hr, show ((v.cod.toNat : Nat) : Int) = v.cod by omega, show ((1 : Nat) : Int) = 1 from rfl] at hn
   rw [hn]
   simp only [Option.bind_some]
   rw [hP v.cod ⟨d1, d3, h5, g2⟩ N (by omega) _ (by rw [List.length_append, Q1b]; simp; omega)]
   simp only [Option.bind_some]
   rw [hbe]
   simp [Q00]
end
end Go.Av
namespace Go.Av
noncomputable section
open Go.Proofs
set_option maxRecDepth 100000
theorem Qgj (v : Q0) : v.byt.length = 1 + (if v.Kind = 25 then (v.Items.map Q0.byt).flatten.length else (Zw v.cod v v.inn).length) := by
 rw [Qav]
 split <;> simp <;> omega
theorem Qhv {R : Qe2 → Int → Option Int} {N : Nat} {f : Qe2} {l : List Q0} (hk : f.kids = l.map Q0.frm) (hb : l.length < 1000000000) (hl : (l.map Q0.byt).flatten.length < 1000000000000000000) (hN : 300100 ≤ N)
  (hv : ∀ x ∈ l, (∃ m, Yq x m = 0) ∧ Fine x ∧ x.wgt < 4000000000) (hR : ∀ x ∈ l, R x.frm (if x.Kind = 25 then 0 else x.cod) = some ((if x.Kind = 25 then (x.Items.map Q0.byt).flatten.length else (Zw x.cod x x.inn).length : Nat) : Int)) : ∀ (n i : Nat), i ≤ l.length → l.length - i < n →
  Yk R N f n (((l.take i).map Q0.byt).flatten.length : Nat) (i : Int) = some (((l.map Q0.byt).flatten.length : Nat) : Int)
 | 0, i, _, h => by omega
 | n + 1, i, hi, hn => by
  simp only [Yk, Qa, Ve, Q0f, hk, List.length_map, Wo, List.getElem?_map]
  by_cases h : i < l.length
  ·have hft := Q39 Q0.byt l i h
   have h1 := Qcm Q0.byt l (i + 1)
   rw [← hft, List.length_append] at h1
   obtain ⟨⟨m, h2⟩, h3, h4⟩ := hv _ (List.getElem_mem h)
   rw [if_pos (by omega), List.getElem?_eq_getElem h]
   simp only [Option.map_some, Option.bind_some, Qhc N l[i] m h3 h2 h4 hN, hR _ (List.getElem_mem h)]
   have hbl := Qgj l[i]
   have e : (((l.take i).map Q0.byt).flatten.length : Int) + IntKind.i64.wrap (1 + ((if l[i].Kind = 25 then (l[i].Items.map Q0.byt).flatten.length else (Zw l[i].cod l[i] l[i].inn).length : Nat) : Int)) = ((((l.take (i + 1)).map Q0.byt).flatten.length : Nat) : Int) := by
    rw [← hft, List.length_append, hbl]
    rw [Qv _ (by omega)]
    push_cast; rfl
   rw [e, Qv _ (by rw [← hft, List.length_append]; omega), Qv _ (by omega)]
   exact_mod_cast Qhv (N := N) hk hb hl hN hv hR n (i + 1) (by omega) (by omega)
  ·rw [if_neg (by omega), List.take_of_length_le (by omega)]
def FP (v : Q0) : Prop :=
 (∀ N, 2 * v.sz + 301000 ≤ N → ∀ c, (ofB c = true ∧ (ofS c).Kind = v.Kind ∧ v.Kind ≠ 25 ∧ Uq c v v.inn = true) → Yc N v.frm c = some ((Zw c v v.inn).length : Int)) ∧
 (∀ N, 2 * v.sz + 301000 ≤ N → v.Kind = 25 → Yc N v.frm 0 = some ((v.Items.map Q0.byt).flatten.length : Int)) ∧
 ∀ N, 2 * v.sz + 300999 ≤ N → ∀ e i, Zr N ⟨v, v.Items.map Q0.frm, e, i⟩ = some ((v.Items.map Q0.byt).flatten.length : Int)
theorem Ql6 (v : Q0) : ∀ m : Int, Fine v → Yq v m = 0 → v.wgt < 4000000000 → v.sz < 1000000000 → FP v := by
 induction v using Q0.ind with
 | h v ih =>
  intro m hf hc hw hz
  have hs := v.sz_eq
  have hsl := Q0.szs_len v.Items
  obtain ⟨l1, l2, l3, l4⟩ := Q6v hw
  have htx := hf.text
  have hit : ∀ x ∈ v.Items, ∃ m', Yq x m' = 0 := fun x hx => by
   rcases Uz hc with ⟨k1, k2, k3⟩ | ⟨_, _, _, _, _, _, k7⟩
   ·rw [(U6 k3).2.2.2.1] at hx; cases hx
   ·exact ⟨_, (k7 x hx).1⟩
  have hsx : ∀ x ∈ v.Items, x.sz + 1 ≤ v.sz := fun x hx => by have := Q0.szs_mem _ x hx; omega
  have hI : ∀ x ∈ v.Items, FP x := fun x hx => by
   obtain ⟨m', hm⟩ := hit x hx
   exact ih x hx m' (hf.items x hx) hm (l4 x hx) (by have := hsx x hx; omega)
  have hW : ∀ N, 2 * v.sz + 300999 ≤ N → ∀ e i, Zr N ⟨v, v.Items.map Q0.frm, e, i⟩ = some ((v.Items.map Q0.byt).flatten.length : Int) := by
   intro N hN e i
   obtain ⟨N, rfl⟩ : ∃ N', N = N' + 1 := ⟨N - 1, by omega⟩
   have := Qhv (R := Yc N) (N := N) (f := ⟨v, v.Items.map Q0.frm, e, i⟩) (l := v.Items) rfl (by omega) l2 (by omega) (fun x hx => ⟨hit x hx, hf.items x hx, l4 x hx⟩) (fun x hx => by
    obtain ⟨p1, p2, _⟩ := hI x hx
    obtain ⟨m', hm⟩ := hit x hx
    have := hsx x hx
    by_cases h5 : x.Kind = 25
    ·rw [if_pos h5, if_pos h5]; exact p2 N (by omega) h5
    ·rw [if_neg h5, if_neg h5]
     obtain ⟨g1, g2⟩ := Qhh (hf.items x hx) hm h5
     obtain ⟨d1, d2, d3⟩ := Q0d _ _ g1
     exact p1 N (by omega) x.cod ⟨d1, d3, h5, g2⟩) N 0 (by omega) (by omega)
   exact this
  refine ⟨fun N hN c hcc => ?_, fun N hN h5 => ?_, hW⟩
  ·obtain ⟨c1, c2, c3, c4⟩ := hcc
   obtain ⟨N, rfl⟩ : ∃ N', N = N' + 1 := ⟨N - 1, by omega⟩
   show X4 (Yc N) (Zr N) N v.frm c = _
   simp only [X4, Z7, Option.bind_some, Qa, Ww, Qir]
   rw [if_neg (by omega)]
   have hww := Q5a c
   by_cases hi : (ofS c).Items = true
   ·rw [if_pos hi]
    have hkk : 22 ≤ v.Kind ∧ v.Kind ≤ 24 := by
     have h1 := hi
     rw [(Q5p c c1).items, c2] at h1
     have := Q40 hc
     simp at h1; omega
    by_cases hs' : (ofS c).Sized = true
    ·rw [if_pos hs']
     have hin : v.frm.inner = (v.inn.length : Int) := by rw [Q7o]; simp only [if_pos hkk]
     have hd : (Zw c v v.inn).length = (ofS c).Width.toNat + ((ofS c).Width.toNat + v.inn.length) := by
      unfold Zw
      rw [if_neg (by simp [hi]), if_neg (by simp [hs'])]
      simp [Y7]
     rw [hin, hd, Qv (2 * (ofS c).Width) (by omega), Qv _ (by omega)]
     congr 1
     omega
    ·have hs' : (ofS c).Sized = false := by simpa using hs'
     rw [if_neg (by simp [hs']), Qb7 c1 hi hs']
     have hd : Zw c v v.inn = [] := by
      unfold Zw
      rw [if_neg (by simp [hi]), if_pos hs']
     rw [hd]; rfl
   ·have hi : (ofS c).Items = false := by simpa using hi
    rw [if_neg (by simp [hi])]
    have hf' : Jr c v = true := by unfold Uq at c4; rw [if_pos hi] at c4; exact c4
    have hd : Zw c v v.inn = Jh (ofS c) v := by unfold Zw; rw [if_pos hi, Qle hf']
    have hl := Q16 hf'
    rw [hd, hl]
    by_cases hs' : (ofS c).Sized = true
    ·rw [if_pos hs', if_pos hs', Qv _ (by omega)]
     congr 1; push_cast; omega
    ·rw [if_neg hs', if_neg hs']
     congr 1; push_cast; omega
  ·obtain ⟨N, rfl⟩ : ∃ N', N = N' + 1 := ⟨N - 1, by omega⟩
   show X4 (Yc N) (Zr N) N v.frm 0 = _
   obtain ⟨o1, o2, o3⟩ := of0
   simp only [X4, Z7, Option.bind_some, Qa, Ww]
   rw [if_pos o2]
   rw [Q7o, hW N (by omega)]
   rfl
theorem Qib {N : Nat} {f : Qe2} {l : List Q0} {c : Int} (hk : f.kids = l.map Q0.frm) (he : f.element = c) (hb : l.length < 1000000000) (hl : (l.map fun x => Zw c x x.inn).flatten.length < 1000000000000000000)
  (hR : ∀ x ∈ l, Yc N x.frm c = some ((Zw c x x.inn).length : Int)) : ∀ (n i : Nat), i ≤ l.length → l.length - i < n →
  Yg N f n ((1 + ((l.take i).map fun x => Zw c x x.inn).flatten.length : Nat) : Int) (i : Int) = some ((1 + (l.map fun x => Zw c x x.inn).flatten.length : Nat) : Int)
 | 0, i, _, h => by omega
 | n + 1, i, hi, hn => by
  simp only [Yg, Qa, Ve, Q0f, hk, he, List.length_map, Wo, List.getElem?_map]
  by_cases h : i < l.length
  ·have hft := Q39 (fun x => Zw c x x.inn) l i h
   have h1 := Qcm (fun x => Zw c x x.inn) l (i + 1)
   rw [← hft, List.length_append] at h1
   rw [if_pos (by omega), List.getElem?_eq_getElem h]
   simp only [Option.map_some, Option.bind_some, hR _ (List.getElem_mem h)]
   have e : ((1 + ((l.take i).map fun x => Zw c x x.inn).flatten.length : Nat) : Int) + ((Zw c l[i] l[i].inn).length : Int) = ((1 + ((l.take (i + 1)).map fun x => Zw c x x.inn).flatten.length : Nat) : Int) := by
    rw [← hft, List.length_append]
    push_cast; omega
   rw [e, Qv _ (by rw [← hft, List.length_append]; omega), Qv _ (by omega)]
   exact_mod_cast Qib (N := N) hk he hb hl hR n (i + 1) (by omega) (by omega)
  ·rw [if_neg (by omega), List.take_of_length_le (by omega)]
theorem Qeg {R : Q0 → Option Qe2} {N : Nat} {v : Q0} {m : Int} (hf : Fine v) (hc : Yq v m = 0) (hw : v.wgt < 4000000000) (hz : v.sz < 1000000000) (hN : 2 * v.sz + 301000 ≤ N) (hR : ∀ x ∈ v.Items, R x = some x.frm) : ∀ (n i : Nat), i ≤ v.Items.length → v.Items.length - i < n →
  W8 R N v n (i : Int) ((v.Items.take i).map Q0.frm) = some v.frm
 | 0, i, _, h => by omega
 | n + 1, i, hi, hn => by
  have hs := v.sz_eq
  have hsl := Q0.szs_len v.Items
  simp only [W8, Qa, Ve, Ww, Wd, Wo]
  by_cases h : i < v.Items.length
  ·rw [if_pos (by omega), List.getElem?_eq_getElem h]
   simp only [Option.bind_some, hR _ (List.getElem_mem h)]
   rw [if_pos (by rw [Nat.ble_eq, List.length_map, List.length_take]; omega), Qv _ (by omega)]
   have e : (v.Items.take i).map Q0.frm ++ [v.Items[i].frm] = (v.Items.take (i + 1)).map Q0.frm := by
    rw [List.take_succ_eq_append_getElem h, List.map_append]; rfl
   rw [e]
   exact_mod_cast Qeg hf hc hw hz hN hR n (i + 1) (by omega) (by omega)
  ·rw [if_neg (by omega), List.take_of_length_le (by omega)]
   obtain ⟨l1, l2, l3, l4⟩ := Q6v hw
   obtain ⟨_, _, hW⟩ := Ql6 v m hf hc hw hz
   have hfe := Q7o v
   by_cases h4 : v.Kind = 24
   ·rcases Uz hc with ⟨k1, k2, k3⟩ | ⟨k1, k2, k3, k4, k5, k6, k7⟩
    ·omega
    have hnn := (Q08 k4).2.1 h4
    rw [if_pos h4, Qv _ (by omega), Qeh N v.N' v.Items (by omega) (by omega) (by omega) (by omega) (fun x hx => by
     have f1 := hf.items x hx
     have f2 := f1.text
     have f3 := (Q6v (l4 x hx)).1
     have := (k7 x hx).2 h4
     rw [Q1n (k7 x hx).1] at this
     exact ⟨this, by omega, f1.num, by omega, by omega, f3⟩)]
    have hel : Q0c v.N' (v.Items.map fun x => (x, x.inn)) = v.elm := rfl
    obtain ⟨e1, e2⟩ := Qmt hf hc h4
    obtain ⟨d1, d2, d3⟩ := Q0d _ _ e1
    have := Qib (N := N) (f := ⟨v, v.Items.map Q0.frm, v.elm, 0⟩) (l := v.Items) (c := v.elm) rfl rfl (by omega) (l3 v.elm) (fun x hx => by
     have := (k7 x hx).2 h4
     rw [Q1n (k7 x hx).1] at this
     exact (Ql6 x _ (hf.items x hx) (k7 x hx).1 (l4 x hx) (by have := Q0.szs_mem _ x hx; omega)).1 N (by have := Q0.szs_mem _ x hx; omega) v.elm ⟨d1, by rw [d3, this], by omega, e2 x hx⟩) N 0 (by omega) (by omega)
    have hal : Wp N ⟨v, v.Items.map Q0.frm, v.elm, 0⟩ = some (v.inn.length : Int) := by
     have hin := Q3k v
     rw [if_pos h4] at hin
     have hil : v.inn.length = 1 + (v.Items.map fun x => Zw v.elm x x.inn).flatten.length := by rw [hin]; simp; omega
     rw [hil]; exact this
    simp only [Option.bind_some, hel, h4, hal]
    rw [if_neg (by decide), if_neg (by decide), if_pos (by decide), hfe]
    simp only [h4]
    rfl
   ·rw [if_neg h4]
    by_cases h2 : v.Kind = 22
    ·rw [if_pos (by simp [h2]), hW N (by omega), hfe]
     have hin := Q3k v
     rw [if_neg h4, if_neg (by omega)] at hin
     rw [hin]
     simp only [Option.bind_some, h2]
     rfl
    ·rw [if_neg (by simpa using h2)]
     by_cases h3 : v.Kind = 23
     ·rw [if_pos (by simp [h3]), hW N (by omega), hfe]
      have hin := Q3k v
      rw [if_neg h4, if_neg (by omega)] at hin
      rw [hin]
      simp only [Option.bind_some, h3]
      rfl
     ·rw [if_neg (by simpa using h3), if_neg (by simpa using h4), hfe, if_neg h4, if_neg (by omega)]
theorem Qeo : ∀ (N : Nat) (v : Q0) (m : Int), Fine v → Yq v m = 0 → v.wgt < 4000000000 → v.sz < 1000000000 → 3 * v.sz + 301000 < N → Vh N v = some v.frm
 | 0, v, _, _, _, _, _, h => by omega
 | N + 1, v, m, hf, hc, hw, hz, hN => by
  have hs := v.sz_eq
  have hsl := Q0.szs_len v.Items
  obtain ⟨l1, l2, l3, l4⟩ := Q6v hw
  have := Qeg (R := Vh N) (N := N) hf hc hw hz (by omega) (fun x hx => by
   have h1 := Q0.szs_mem _ x hx
   have h2 : ∃ m', Yq x m' = 0 := by
    rcases Uz hc with ⟨k1, k2, k3⟩ | ⟨_, _, _, _, _, _, k7⟩
    ·rw [(U6 k3).2.2.2.1] at hx; cases hx
    ·exact ⟨_, (k7 x hx).1⟩
   obtain ⟨m', hm⟩ := h2
   exact Qeo N x m' (hf.items x hx) hm (l4 x hx) (by omega) (by omega)) N 0 (by omega) (by omega)
  exact this
theorem Qdv {v : Q0} {m : Int} (h : Gq v m = 0) : Yq v m = 0 ∧ 0 ≤ m ∧ m ≤ 32 := by
 unfold Gq at h
 split at h
 ·cases h
 ·rename_i hr
  unfold Q4i at hr
  simp at hr
  exact ⟨h, hr.1, hr.2⟩
theorem Qkt (s : List UInt8) : (Q00 s).map (fun n => UInt8.ofNat n.toNat) = s := by
 unfold Q00
 rw [List.map_map]
 conv => rhs; rw [← List.map_id s]
 apply List.map_congr_left
 intro b _
 simp
theorem Q88 (N : Nat) (v : Q0) (m : Int) (hf : Fine v) (hw : v.wgt < 4000000000) (hz : v.sz < 1000000000) (hN : 3 * v.sz + 302000 ≤ N) : W9 N v m = some (if Gq v m ≠ 0 then ([], Gq v m) else (v.nrm.byt, 0)) := by
 simp only [W9, Qlk N v m hf (by omega) hz, Option.bind_some, Qa, U9]
 by_cases h : Gq v m = 0
 ·obtain ⟨hc, _⟩ := Qdv h
  have hnf := Qcg hf
  have hnc := Q9a v m hc
  have hnw : v.nrm.wgt < 4000000000 := by rw [Qca]; exact hw
  have hnz : v.nrm.sz < 1000000000 := by rw [Qhe]; exact hz
  have hl := (Q4q v.nrm).2.1
  rw [if_neg (by simp [h]), if_neg (by simp [h]), Qm2 N v (by omega) hz]
  simp only [Option.bind_some]
  rw [Qeo N v.nrm m hnf hnc hnw hnz (by rw [Qhe]; omega)]
  simp only [Option.bind_some]
  rw [(Ql8 v.nrm m hnf hnc hnw hnz).2 N (by rw [Qhe]; omega) [] (by simp; omega)]
  simp only [Option.bind_some, Wx, List.nil_append, Qkt]
 ·rw [if_pos h, if_pos h]
end
end Go.Av
namespace Go.Av
noncomputable section
open Go.Proofs
set_option maxRecDepth 100000
abbrev NN : Nat := 800000000
theorem Qd3 (v : Q0) (h : v.txt) : v.wgt ≤ 430 * v.sz := by
 induction v using Q0.ind with
 | h v ih =>
  rw [Q0.txt_eq] at h
  have hl : ∀ l : List Q0, (∀ x ∈ l, x.wgt ≤ 430 * x.sz) → Q0.wgts l ≤ 430 * Q0.szs l := by
   intro l
   induction l with
   | nil => intro _; simp [Q0.wgts]
   | cons x l ihl =>
    intro h
    have h1 := h x (.head _)
    have h2 := ihl (fun y hy => h y (.tail _ hy))
    simp only [Q0.wgts, Q0.szs]; omega
  have := hl v.Items (fun x hx => ih x hx (Qcy _ h.2 x hx))
  rw [v.wgt_eq, v.sz_eq]; omega
theorem Qq0 (N : Nat) (s : List UInt8) (most : Int) (hs : s.length ≤ 300000) (hN : 700000500 < N) : ∃ r : Rd, Zc N s most = some r ∧ Qs N s most = some r ∧ (r.1).sz ≤ 300001000 ∧
  (r.2.2 = 0 → Fine r.1 ∧ ∃ m : Nat, most = (m : Int) ∧ m ≤ 32 ∧ r = Z8 (Ym m) s ∧ Yq r.1 m = 0) := by
 by_cases h : 0 ≤ most ∧ most ≤ 32
 ·obtain ⟨m, rfl⟩ := Int.eq_ofNat_of_zero_le h.1
  refine ⟨_, Qpw m N s (by omega) (by omega) (by omega), Q9k m N s (by omega) (by omega) hs, ?_, fun he => ?_⟩
  ·by_cases he : (Z8 (Ym m) s).2.2 = 0
   ·have := (Jt (Uw m)).1 s (by omega) he
    omega
   ·rw [(Qdk s he).1]; decide
  ·obtain ⟨b, u, rfl, e1, e2⟩ := Q87 he
   have := Q1p m b.toNat u (by simp at hs; omega) e1
   rw [e2]
   exact ⟨this.1, m, rfl, by omega, e2.symm, this.2.1⟩
 ·obtain ⟨r, h1, h2, h3⟩ := Quh N s most hs hN
  refine ⟨r, h1, h2, h3, fun he => ?_⟩
  obtain ⟨N, rfl⟩ : ∃ K, N = K + 1 := ⟨N - 1, by omega⟩
  have : Zc (N + 1) s most = some (Js, 0, 2) := by
   show W1 (Zc N) (Xh N) (X8 N) (V6 N) N s most = _
   simp only [W1, Q49, show Q4i most = false from decide_eq_false h, Option.bind_some, Qa, Bool.not_false, if_true]; rfl
  rw [this] at h1
  cases h1
  cases he
theorem Qs5 : Vy NN = some true := by decide +kernel
theorem Qpo {v : Q0} {m : Nat} (hf : Fine v) (hc : Yq v m = 0) (hw : v.wgt < 4000000000) : Z8 (Ym m) v.byt = (v, (v.byt.length : Int), 0) := by
 have := (Qp5 v m hf hc hw).2 []
 rwa [List.append_nil] at this
end
end Go.Av
namespace Go.Av
noncomputable section
open Go.Proofs
set_option maxRecDepth 100000
def Qus (k : Nat) : Bool := !((ofB (Ur k))) || (W2 (Xx k).2.1).contains (Ur k)
theorem Qnx : ((List.range 40).all Qus) = true := by decide +kernel
theorem Qf6 {c : Int} (h : ofB c = true) : c ∈ W2 (ofS c).Kind := by
 have h1 : bsI c < 40 ∧ Ur (bsI c) = c := by simpa [ofB] using h
 have hw := List.all_eq_true.1 Qnx (bsI c) (by simpa using h1.1)
 unfold Qus at hw
 rw [h1.2, h] at hw
 have e : ofT c = Xx (bsI c) := by unfold ofT; rw [if_pos h]
 rw [← e] at hw
 have : c ∈ W2 (ofT c).2.1 := by simpa using hw
 exact this
def Qw5 (k : Nat) : Bool := !(decide ((Xx k).2.1 = 11 ∨ (Xx k).2.1 = 12)) || (decide ((Xx k).2.2.1 ≠ 0 ∧ (Xx k).2.2.1 ≠ 1 ∧ (Xx k).1 ≠ 65) && !(Xx k).2.2.2.1)
theorem Qpd : ((List.range 40).all Qw5) = true := by decide +kernel
theorem Qr1 {c : Int} (h : ofB c = true) (hk : (ofS c).Kind = 11 ∨ (ofS c).Kind = 12) : (ofS c).Width ≠ 0 ∧ (ofS c).Width ≠ 1 ∧ (ofS c).Code ≠ 65 ∧ (ofS c).Sized = false := by
 have := Qfx (P := fun t => (t.2.1 = 11 ∨ t.2.1 = 12) → (t.2.2.1 ≠ 0 ∧ t.2.2.1 ≠ 1 ∧ t.1 ≠ 65) ∧ t.2.2.2.1 = false) Qpd (fun k hk h1 => by simpa [Qw5, h1] using hk) h hk
 exact ⟨this.1.1, this.1.2.1, this.1.2.2, this.2⟩
theorem Qbd {c : Int} {v : Q0} {b : List UInt8} (hi : (ofS c).Items = false) (h : Uq c v b = true) : Jr c v = true := by
 unfold Uq at h
 rwa [if_pos hi] at h
theorem Q6p {c : Int} {v : Q0} {b : List UInt8} (hi : (ofS c).Items = false) (h : Jr c v = true) : Zw c v b = Jh (ofS c) v := by
 unfold Zw
 rw [if_pos hi, Qle h]
theorem Q4v {c : Int} {v : Q0} {b : List UInt8} (hi : (ofS c).Items = true) (hs : (ofS c).Sized = true) : (Zw c v b).length = 2 * (ofS c).Width.toNat + b.length := by
 unfold Zw
 rw [if_neg (by simp [hi]), if_neg (by simp [hs])]
 simp [Y7]; omega
theorem Qbg {c d : Int} {v : Q0} {b : List UInt8} (hc : ofB c = true) (hd : ofB d = true) (kc : (ofS c).Kind = v.Kind) (kd : (ofS d).Kind = v.Kind) (sc : Uq c v b = true) (sd : Uq d v b = true) (hw : (ofS c).Width ≤ (ofS d).Width) : (Zw c v b).length ≤ (Zw d v b).length := by
 have wc := Q5p c hc
 have wd := Q5p d hd
 cases hi : (ofS c).Items with
 | false =>
  have hj : (ofS d).Items = false := by rw [wd.items, kd, ← kc, ← wc.items]; exact hi
  have fc := Qbd hi sc
  have fd := Qbd hj sd
  rw [Q6p hi fc, Q6p hj fd]
  exact longer fc fd hw
 | true =>
  have hj : (ofS d).Items = true := by rw [wd.items, kd, ← kc, ← wc.items]; exact hi
  cases hs : (ofS c).Sized with
  | true =>
   cases ht : (ofS d).Sized with
   | true =>
    rw [Q4v hi hs, Q4v hj ht]
    have := Q5a c
    have := Q5a d
    omega
   | false =>
    have := Qb7 hd hj ht
    have := ((Wf hc hi).1 hs).1
    omega
  | false =>
   unfold Zw
   rw [if_neg (by simp [hi]), if_pos hs]
   simp
theorem Qoe {v : Q0} (hi : v.Items = []) (hn : nnS v = false) : v.nrm = v := by
 rw [Q5q, Q90 hn, hi]
 cases v; simp at hi; subst hi; rfl
theorem Qnz {c : Int} {v : Q0} (h : Jr c v = true) : Jr c v.nrm = true := by
 obtain ⟨f1, f2, f3, f4⟩ := Gi h
 obtain ⟨c1, c2, c3, c4, c5, c6, c7⟩ := U6 f3
 cases hn : nnS v with
 | false => rw [Qoe c4 hn]; exact h
 | true =>
  have hk := Q7c hn
  obtain ⟨r1, r2, r3, r4⟩ := Qr1 f1 (by rw [f2]; exact hk)
  have hs : Q1q (ofS c) v.nrm = true := by
   unfold Q1q
   rw [if_neg r3, if_neg (by simp [r4]), if_neg r1, if_neg r2]
  unfold Jr
  simp [f1, f2, Vr, Qbn f3, hs]
theorem Q8i (f : Q0 → List UInt8) (l : List Q0) : (l.map f).flatten.length = (l.map fun x => (f x).length).sum := by
 induction l with
 | nil => rfl
 | cons x l ih => simp [ih]
theorem Qqi {l : List Q0} {f g : Q0 → Nat} (h : ∀ x ∈ l, f x ≤ g x) : (l.map f).sum ≤ (l.map g).sum := by
 induction l with
 | nil => simp
 | cons x l ih =>
  have h1 := h x (.head _)
  have h2 := ih (fun y hy => h y (.tail _ hy))
  simp only [List.map_cons, List.sum_cons]; omega
theorem Q5d {rd : List UInt8 → Rd} {P : Q0 → Prop} (e : Q0 → Nat) (hg : Qln rd) (h : ∀ s, s.length ≤ 300000 → (rd s).2.2 = 0 → P (rd s).1 ∧ e (rd s).1 ≤ (rd s).2.1.toNat) : ∀ (c : Nat) (s : List UInt8) (acc : List Q0), s.length ≤ 300000 → (∀ x ∈ acc, P x) → (X9 rd c s acc).2 = 0 →
  ∃ k, k ≤ s.length ∧ (X9 rd c s acc).1.2 = s.drop k ∧ ((X9 rd c s acc).1.1.map e).sum ≤ (acc.map e).sum + k ∧ (∀ x ∈ (X9 rd c s acc).1.1, P x) ∧ (X9 rd c s acc).1.1.length = acc.length + c
 | 0, s, acc, _, hP, _ => ⟨0, by omega, by simp [X9], by simp [X9], by simpa [X9] using hP, by simp [X9]⟩
 | c + 1, s, acc, hs, hP, h0 => by
  rw [X9] at h0 ⊢
  split at h0
  ·rename_i he; exact absurd h0 he
  ·rename_i he
   rw [if_neg he]
   obtain ⟨p1, p2⟩ := h s hs (Classical.byContradiction he)
   obtain ⟨g1, g2, g3⟩ := hg s (by omega) (Classical.byContradiction he)
   obtain ⟨k, k1, k2, k3, k4, k5⟩ := Q5d e hg h c (s.drop (rd s).2.1.toNat) (acc ++ [(rd s).1]) (by rw [List.length_drop]; omega) (fun x hx => by
    rcases List.mem_append.1 hx with hx | hx
    ·exact hP x hx
    ·have : x = (rd s).1 := by simpa using hx
     subst this; exact p1) h0
   rw [List.length_drop] at k1
   refine ⟨(rd s).2.1.toNat + k, by omega, by rw [k2, List.drop_drop], ?_, k4, by rw [k5]; simp; omega⟩
   simp only [List.map_append, List.map_cons, List.map_nil, List.sum_append, List.sum_cons, List.sum_nil] at k3
   omega
theorem Qlx {data : Int → List UInt8 → Rd} {c : Qd} {s : List UInt8} (h : (Q13 data c s).2.2 = 0) : ∃ (body : List UInt8) (num : Int) (q : (List Q0 × List UInt8) × Int) (cnt : Nat) (rest : List UInt8), s.length ≥ c.Width.toNat + Jq (s.take c.Width.toNat) ∧ body.length = Jq (s.take c.Width.toNat) ∧ c.Width.toNat ≤ body.length ∧ cnt = Jq (body.take c.Width.toNat) ∧
  ((c.Kind ≠ 24 ∧ num = 0 ∧ rest = body.drop c.Width.toNat ∧ q = X9 (Z8 data) cnt rest []) ∨ (c.Kind = 24 ∧ ∃ b : UInt8, body.drop c.Width.toNat = b :: rest ∧ ofB (b.toNat : Int) = true ∧ b.toNat ≠ 0 ∧ num = (ofS (b.toNat : Int)).Kind ∧ q = X9 (data (b.toNat : Int)) cnt rest [])) ∧
  (Q7p c.Kind num q (c.Width.toNat + Jq (s.take c.Width.toNat))).2.2 = 0 ∧ Q13 data c s = Q7p c.Kind num q (c.Width.toNat + Jq (s.take c.Width.toNat)) := by
 unfold Q13 at h ⊢
 split at h
 ·cases h
 rename_i h1; rw [if_neg h1]
 split at h
 ·cases h
 rename_i h2; rw [if_neg h2]
 have hbl : ((s.drop c.Width.toNat).take (Jq (s.take c.Width.toNat))).length = Jq (s.take c.Width.toNat) := by rw [List.length_take, List.length_drop]; omega
 unfold Qj3 at h ⊢
 split at h
 ·cases h
 rename_i h3; rw [if_neg h3]
 split at h
 ·cases h
 rename_i h4; rw [if_neg h4]
 split at h
 ·cases h
 rename_i h5; rw [if_neg h5]
 split at h
 ·rename_i h6; rw [if_pos h6]
  cases hb : ((s.drop c.Width.toNat).take (Jq (s.take c.Width.toNat))).drop c.Width.toNat with
  | nil => rw [hb] at h; cases h
  | cons b rest =>
   rw [hb] at h
   simp only [Qrt] at h ⊢
   split at h
   ·cases h
   rename_i h7; rw [if_neg h7]
   refine ⟨_, _, _, _, rest, by omega, hbl, by omega, rfl, .inr ⟨h6, b, hb, ?_, ?_, rfl, rfl⟩, h, rfl⟩
   ·cases ho : ofB (b.toNat : Int) with
    | true => rfl
    | false => exact absurd (.inl ho) h7
   ·exact fun ho => h7 (.inr ho)
 ·rename_i h6; rw [if_neg h6]
  exact ⟨_, _, _, _, _, by omega, hbl, by omega, rfl, .inl ⟨h6, rfl, rfl, rfl⟩, h, rfl⟩
def LP (code : Int) (r : Rd) : Prop := (r.1.Kind ≠ 25 → Uq code r.1.nrm r.1.nrm.inn = true ∧ (Zw code r.1.nrm r.1.nrm.inn).length ≤ r.2.1.toNat) ∧ r.1.nrm.byt.length ≤ r.2.1.toNat + 1
theorem Qmh {code : Int} {v : Q0} {m : Int} {n : Nat} (hc : ofB code = true) (hk : (ofS code).Kind = v.Kind) (h5 : v.Kind ≠ 25) (hf : Fine v) (hv : Yq v m = 0) (hs : Uq code v.nrm v.nrm.inn = true) (hl : (Zw code v.nrm v.nrm.inn).length ≤ n) : v.nrm.byt.length ≤ n + 1 := by
 have hf' := Qcg hf
 have hv' := Q9a v m hv
 have h5' : v.nrm.Kind ≠ 25 := by rw [Vr]; exact h5
 obtain ⟨g1, g2⟩ := Qhh hf' hv' h5'
 obtain ⟨d1, d2, d3⟩ := Q0d _ _ g1
 have hle : (ofS v.nrm.cod).Width ≤ (ofS code).Width := by
  unfold Q0.cod
  refine Qi3 (c := code) ?_ ?_
  ·rw [Vr, ← hk]; exact Qf6 hc
  ·simpa [Qf7] using hs
 have := Qbg d1 hc d3 (by rw [Vr]; exact hk) g2 hs hle
 rw [Qgj, if_neg h5']
 omega
theorem Qaz {code : Int} {s : List UInt8} (hs : s.length ≤ 300000) (h : (Q73 code s).2.2 = 0) : LP code (Q73 code s) := by
 have hval := Q7g 0 hs h
 generalize hg : Q73 code s = g at h hval ⊢
 obtain ⟨x, n, e⟩ := g
 simp only at h hval
 subst h
 obtain ⟨h1, h2, h3, h4, h5, h6, h7⟩ := reads (by unfold Q8j; omega) hg
 obtain ⟨f1, f2, f3, f4⟩ := Gi h6
 obtain ⟨c1, c2, c3, c4, c5, c6, c7⟩ := U6 f3
 have hi := Ul (Q5p code f1) (by omega)
 have hn := Qnz h6
 have hlen : (Jh (ofS code) x.nrm).length = (Jh (ofS code) x).length := by rw [Q16 hn, Q16 h6, Q4c]
 have hl : (Jh (ofS code) x).length = n.toNat := by rw [h7, List.length_take]; omega
 have hsb : Uq code x.nrm x.nrm.inn = true := by unfold Uq; rw [if_pos hi]; exact hn
 have hdl : (Zw code x.nrm x.nrm.inn).length ≤ n.toNat := by rw [Q6p hi hn]; omega
 exact ⟨fun _ => ⟨hsb, hdl⟩, Qmh f1 f2 (by show x.Kind ≠ 25; omega) hval.1 hval.2.1 hsb hdl⟩
theorem Qtk {s : List UInt8} (h : s.length ≤ 1) : Jq s < 256 := by
 match s, h with
 | [], _ => decide
 | [b], _ =>
  have := b.toNat_lt
  simp [Jq]; omega
theorem Qbl {m : Nat} (ih : ∀ code s, s.length ≤ 300000 → (Ym m code s).2.2 = 0 → LP code (Ym m code s)) (s : List UInt8) (hs : s.length ≤ 300000) (he : (Z8 (Ym m) s).2.2 = 0) : (Z8 (Ym m) s).1.nrm.byt.length ≤ (Z8 (Ym m) s).2.1.toNat := by
 obtain ⟨b, u, rfl, e1, e2⟩ := Q87 he
 have hu : u.length ≤ 300000 := by simp at hs; omega
 have h1 := (ih b.toNat u hu e1).2
 have h2 := (Uw m b.toNat u (by omega) e1).1
 rw [e2]
 simp only []
 omega
theorem Qj7 : ∀ (m : Nat) (code : Int) (s : List UInt8), s.length ≤ 300000 → (Ym m code s).2.2 = 0 → LP code (Ym m code s) := by
 intro m
 induction m with
 | zero =>
  intro code s hs he
  obtain ⟨h1, h2 | ⟨h2, k, hk⟩⟩ := Q8f he
  ·rw [Q3m h1 h2] at he ⊢
   exact Qaz hs he
  ·omega
 | succ m ih =>
  intro code s hs he
  have hval := Q1p (m + 1) code s hs he
  obtain ⟨h1, h2 | ⟨h2, k, hk⟩⟩ := Q8f he
  ·rw [Q3m h1 h2] at he ⊢
   exact Qaz hs he
  rw [Q4b h1 h2] at he hval ⊢
  have hsh := Wf h1 h2
  obtain ⟨hrd, hr1⟩ := Jt (Uw m)
  have hrl := Qbl ih
  -- what is written within, of a list, a map, described
  unfold Qes at he hval ⊢
  by_cases k25 : (ofS code).Kind = 25
  ·rw [if_pos k25] at he hval ⊢
   have e1 : (X9 (Z8 (Ym m)) 2 s []).2 = 0 := by
    unfold Qc7 at he
    split at he
    ·exact he
    ·rename_i h1; exact Classical.byContradiction h1
   obtain ⟨k, q1, q2, q3, q4, q5⟩ := Q5d (P := fun _ => True) (fun x => x.nrm.byt.length) hrd (fun s hs he => ⟨trivial, hrl s hs he⟩) 2 s [] hs (by simp) e1
   unfold Qc7
   rw [if_neg (by simp [e1])]
   refine ⟨fun h => absurd rfl h, ?_⟩
   show (Q0.nrm ⟨25, 0, [], (X9 (Z8 (Ym m)) 2 s []).1.1⟩).byt.length ≤ _
   rw [Qgj, Vr, if_pos rfl, Wn]
   simp only [q2, List.length_drop, Int.toNat_natCast]
   rw [List.map_map, Q8i]
   simp only [List.map_nil, List.sum_nil] at q3
   have : ((X9 (Z8 (Ym m)) 2 s []).1.1.map fun x => ((Q0.byt ∘ Q0.nrm) x).length).sum = ((X9 (Z8 (Ym m)) 2 s []).1.1.map fun x => x.nrm.byt.length).sum := rfl
   omega
  rw [if_neg k25] at he hval ⊢
  by_cases hsz : (ofS code).Sized = false
  ·rw [if_pos hsz] at he hval ⊢
   have hk : (ofS code).Kind = 22 := by have := hsh.2 hsz; omega
   have hw0 := Qb7 h1 h2 hsz
   have hsb : Uq code (Q0.nrm ⟨(ofS code).Kind, 0, [], []⟩) (Q0.nrm ⟨(ofS code).Kind, 0, [], []⟩).inn = true := by
    unfold Uq
    rw [if_neg (by simp [h2]), if_pos hw0, Wn]; simp
   have hdl : (Zw code (Q0.nrm ⟨(ofS code).Kind, 0, [], []⟩) (Q0.nrm ⟨(ofS code).Kind, 0, [], []⟩).inn).length ≤ 0 := by
    unfold Zw
    rw [if_neg (by simp [h2]), if_pos hsz]; simp
   exact ⟨fun _ => ⟨hsb, hdl⟩, Qmh (n := 0) h1 rfl k25 hval.1 hval.2.1 hsb hdl⟩
  rw [if_neg hsz] at he hval ⊢
  have hsz : (ofS code).Sized = true := by
   cases h : (ofS code).Sized with
   | true => rfl
   | false => exact absurd h hsz
  obtain ⟨body, num, q, cnt, rest, p1, p2, p3, p4, p5, p7, p8⟩ := Qlx he
  obtain ⟨f1, f2, f3, f4⟩ := Qgi p7
  rw [p8, f4] at hval ⊢
  obtain ⟨w14, k22, k24⟩ := hsh.1 hsz
  have key : (Q0.nrm ⟨(ofS code).Kind, num, [], q.1.1⟩).inn.length + (ofS code).Width.toNat ≤ body.length ∧ q.1.1.length = cnt := by
   rcases p5 with ⟨q0, q1, q2, q3⟩ | ⟨q0, b, q1, q2, q3, q4, q5⟩
   ·rw [q3] at f1
    obtain ⟨k, i1, i2, i3, i4, i5⟩ := Q5d (P := fun _ => True) (fun x => x.nrm.byt.length) hrd (fun s hs he => ⟨trivial, hrl s hs he⟩) cnt rest [] (by rw [q2, List.length_drop]; omega) (by simp) f1
    rw [← q3] at i3 i5
    simp only [List.map_nil, List.sum_nil] at i3
    rw [Q3k, Vr, if_neg q0, if_neg k25, Wn, List.map_map, Q8i]
    have : (q.1.1.map fun x => ((Q0.byt ∘ Q0.nrm) x).length).sum = (q.1.1.map fun x => x.nrm.byt.length).sum := rfl
    have hr : rest.length = body.length - (ofS code).Width.toNat := by rw [q2, List.length_drop]
    refine ⟨?_, by simpa using i5⟩
    show (q.1.1.map fun x => ((Q0.byt ∘ Q0.nrm) x).length).sum + _ ≤ _
    omega
   ·have hr : rest.length + 1 = body.length - (ofS code).Width.toNat := by
     have := congrArg List.length q1
     rw [List.length_drop, List.length_cons] at this; omega
    have hbk := (Q5p _ q2).kind
    have hb25 : (ofS (b.toNat : Int)).Kind ≠ 25 := fun h => q3 (by have := Qsx q2 h; omega)
    rw [q5] at f1
    obtain ⟨k, i1, i2, i3, i4, i5⟩ := Q5d (P := fun x => x.Kind = (ofS (b.toNat : Int)).Kind ∧ Uq (b.toNat : Int) x.nrm x.nrm.inn = true) (fun x => (Zw (b.toNat : Int) x.nrm x.nrm.inn).length) (Uw m _) (fun s hs he => by
     have g1 := ih (b.toNat : Int) s hs he
     have g2 := (Q1p m (b.toNat : Int) s hs he).2.2
     have g3 := g1.1 (by rw [g2]; exact hb25)
     exact ⟨⟨g2, g3.1⟩, g3.2⟩) cnt rest [] (by omega) (by simp) f1
    rw [← q5] at i3 i4 i5
    simp only [List.map_nil, List.sum_nil] at i3
    have hN : Q1j (⟨(ofS code).Kind, num, [], q.1.1⟩ : Q0) = num := Q65 (by show (ofS code).Kind ≠ 11 ∧ (ofS code).Kind ≠ 12; omega)
    have hall : Qf7 (b.toNat : Int) (Q0.prs (Q0.nrm ⟨(ofS code).Kind, num, [], q.1.1⟩)) = true := by
     unfold Qf7 Q0.prs
     rw [List.all_map, List.all_eq_true]
     intro x hx
     rw [Wn] at hx
     obtain ⟨y, hy, rfl⟩ := List.mem_map.1 hx
     exact (i4 y hy).2
    have hmem : (b.toNat : Int) ∈ W2 (Q0.nrm ⟨(ofS code).Kind, num, [], q.1.1⟩).N' := by
     rw [Q1g, hN, q4]; exact Qf6 q2
    have hle : (ofS (Q0.elm (Q0.nrm ⟨(ofS code).Kind, num, [], q.1.1⟩))).Width ≤ (ofS (b.toNat : Int)).Width := Qi3 hmem hall
    obtain ⟨e1, e2⟩ := Qbx ⟨_, hmem, hall⟩
    have e1 : Q0.elm (Q0.nrm ⟨(ofS code).Kind, num, [], q.1.1⟩) ∈ W2 (Q0.nrm ⟨(ofS code).Kind, num, [], q.1.1⟩).N' := e1
    rw [Q1g, hN] at e1
    obtain ⟨d1, d2, d3⟩ := Q0d _ _ e1
    rw [Q3k, Vr, if_pos q0, List.length_cons, Q8i, Wn, List.map_map]
    have hsum : (q.1.1.map ((fun x => (Zw (Q0.elm (Q0.nrm ⟨(ofS code).Kind, num, [], q.1.1⟩)) x x.inn).length) ∘ Q0.nrm)).sum ≤ (q.1.1.map fun x => (Zw (b.toNat : Int) x.nrm x.nrm.inn).length).sum := by
     refine Qqi (fun x hx => ?_)
     obtain ⟨g1, g2⟩ := i4 x hx
     refine Qbg d1 q2 (by rw [d3, Vr, g1, q4]) (by rw [Vr, g1]) ?_ g2 hle
     have := List.all_eq_true.1 e2 (x.nrm, x.nrm.inn) (by unfold Q0.prs; rw [Wn]; exact List.mem_map.2 ⟨x.nrm, List.mem_map.2 ⟨x, hx, rfl⟩, rfl⟩)
     exact this
    refine ⟨?_, by simpa using i5⟩
    show (q.1.1.map ((fun x => (Zw (Q0.elm (Q0.nrm ⟨(ofS code).Kind, num, [], q.1.1⟩)) x x.inn).length) ∘ Q0.nrm)).sum + 1 + _ ≤ _
    omega
  obtain ⟨key, hcnt⟩ := key
  have hsb : Uq code (Q0.nrm ⟨(ofS code).Kind, num, [], q.1.1⟩) (Q0.nrm ⟨(ofS code).Kind, num, [], q.1.1⟩).inn = true := by
   unfold Uq
   rw [if_neg (by simp [h2]), if_neg (by omega), Wn, List.length_map]
   simp only [decide_eq_true_eq]
   rcases w14 with w | w
   ·right
    have hwn : (ofS code).Width.toNat = 1 := by rw [w]; rfl
    rw [hwn] at p2 p4 key
    have n1 := Qtk (s := s.take 1) (by rw [List.length_take]; omega)
    have n2 := Qtk (s := body.take 1) (by rw [List.length_take]; omega)
    omega
   ·left; exact w
  have hdl : (Zw code (Q0.nrm ⟨(ofS code).Kind, num, [], q.1.1⟩) (Q0.nrm ⟨(ofS code).Kind, num, [], q.1.1⟩).inn).length ≤ ((((ofS code).Width.toNat + Jq (s.take (ofS code).Width.toNat) : Nat) : Int)).toNat := by
   rw [Q4v h2 hsz, Int.toNat_natCast]; omega
  exact ⟨fun _ => ⟨hsb, hdl⟩, Qmh h1 rfl k25 hval.1 hval.2.1 hsb hdl⟩
end
end Go.Av
namespace Go.Av
noncomputable section
open Go.Proofs
set_option maxRecDepth 100000
theorem Qxk (N : Nat) (l : List Q0) : Jx N l = some ⟨22, 0, [], l⟩ := rfl
theorem Q9d {v : Q0} {m : Int} (h : Yq v m = 0) (hm : 0 ≤ m ∧ m ≤ 32) : Gq v m = 0 := by
 unfold Gq
 rw [if_neg (by unfold Q4i; simp [hm]), h]
theorem Qr4 : W2 22 = [69, 192, 208] := by decide +kernel
theorem Quc : ((ofS 69).Items = true ∧ (ofS 69).Width = 0 ∧ (ofS 69).Sized = false) ∧ ((ofS 192).Items = true ∧ (ofS 192).Width = 1 ∧ (ofS 192).Sized = true) ∧ ((ofS 208).Items = true ∧ (ofS 208).Width = 4 ∧ (ofS 208).Sized = true) := by decide +kernel
theorem Qo2 (l : List Q0) : (⟨22, 0, [], l⟩ : Q0).nrm = ⟨22, 0, [], l.map Q0.nrm⟩ := by
 rw [Q5q, Q65 ⟨by show (22 : Int) ≠ 11; decide, by show (22 : Int) ≠ 12; decide⟩]
theorem Qo7 {l : List Q0} (hl : l.length ≤ 255) : (⟨22, 0, [], l⟩ : Q0).byt = if l.length = 0 then [69] else if 254 < (l.map Q0.byt).flatten.length then 208 :: (Ua ((l.map Q0.byt).flatten.length + 4) 4 ++ (Ua l.length 4 ++ (l.map Q0.byt).flatten)) else 192 :: (Ua ((l.map Q0.byt).flatten.length + 1) 1 ++ (Ua l.length 1 ++ (l.map Q0.byt).flatten)) := by
 have hin : (⟨22, 0, [], l⟩ : Q0).inn = (l.map Q0.byt).flatten := by rw [Q3k, if_neg (by show ¬ ((22 : Int) = 24); decide), if_neg (by show ¬ ((22 : Int) = 25); decide)]
 obtain ⟨⟨a1, a2, a3⟩, ⟨b1, b2, b3⟩, c1, c2, c3⟩ := Quc
 have s1 : ∀ b, Uq 69 ⟨22, 0, [], l⟩ b = decide (l.length = 0) := fun b => by
  unfold Uq; rw [if_neg (by simp [a1]), if_pos a2]
 have s2 : ∀ b, Uq 192 ⟨22, 0, [], l⟩ b = decide (b.length + 1 < 256) := fun b => by
  unfold Uq; rw [if_neg (by simp [b1]), if_neg (by omega), b2]
  rw [Bool.eq_iff_iff]; simp only [decide_eq_true_eq]; omega
 have s3 : ∀ b, Uq 208 ⟨22, 0, [], l⟩ b = true := fun b => by
  unfold Uq; rw [if_neg (by simp [c1]), if_neg (by omega), c2]; simp
 have d1 : ∀ b, Zw 69 ⟨22, 0, [], l⟩ b = [] := fun b => by unfold Zw; rw [if_neg (by simp [a1]), if_pos a3]
 have d2 : ∀ b, Zw 192 ⟨22, 0, [], l⟩ b = Ua (b.length + 1) 1 ++ (Ua l.length 1 ++ b) := fun b => by
  unfold Zw; rw [if_neg (by simp [b1]), if_neg (by simp [b3]), b2]; rfl
 have d3 : ∀ b, Zw 208 ⟨22, 0, [], l⟩ b = Ua (b.length + 4) 4 ++ (Ua l.length 4 ++ b) := fun b => by
  unfold Zw; rw [if_neg (by simp [c1]), if_neg (by simp [c3]), c2]; rfl
 rw [Qav, if_neg (by show ¬ ((22 : Int) = 25); decide)]
 unfold Q0.cod Q0c
 rw [hin]
 show Q7w (((W2 22).find? fun c => Qf7 c [(⟨22, 0, [], l⟩, (l.map Q0.byt).flatten)]).getD 0) :: Zw (((W2 22).find? fun c => Qf7 c [(⟨22, 0, [], l⟩, (l.map Q0.byt).flatten)]).getD 0) _ _ = _
 rw [Qr4]
 simp only [List.find?_cons, Qf7, List.all_cons, List.all_nil, Bool.and_true, s1, s2, s3]
 by_cases h0 : l.length = 0
 ·rw [if_pos h0]
  simp only [h0, decide_true, Option.getD_some, d1]
  rfl
 ·rw [if_neg h0]
  simp only [h0, decide_false]
  by_cases h1 : 254 < (l.map Q0.byt).flatten.length
  ·rw [if_pos h1]
   simp only [decide_eq_false (show ¬ ((l.map Q0.byt).flatten.length + 1 < 256) by omega), Option.getD_some, d3]
   rfl
  ·rw [if_neg h1]
   simp only [decide_eq_true (show (l.map Q0.byt).flatten.length + 1 < 256 by omega), Option.getD_some, d2]
   rfl
theorem Q72 (v : Q0) (h : v.sz ≤ 40) (ht : v.txt) : v.nrm.byt.length ≤ 17200 := by
 have h1 := (Q4q v.nrm).2.1
 have h2 := Qd3 v ht
 rw [Qca] at h1
 omega
theorem Qmc {l : List Q0} (hl : l.length ≤ 6) (hok : ∀ x ∈ l, x.sz ≤ 40 ∧ x.txt ∧ Fine x ∧ Yq x (8 : Nat) = 0) : Qy NN (if Gq ⟨22, 0, [], l⟩ 9 ≠ 0 then ([], Gq ⟨22, 0, [], l⟩ 9) else ((⟨22, 0, [], l⟩ : Q0).nrm.byt, 0)) (⟨22, 0, [], l⟩ : Q0).nrm.byt = some true := by
 have hv := Q48 (k := 22) (n := 0) (l := l) (m := 8) (by omega) (by omega) (fun x hx => ⟨(hok x hx).2.2.1, (hok x hx).2.2.2, fun h => by omega⟩) (Q8w (by omega)) (by omega) (fun _ => rfl) (by omega) (by omega)
 have hc : Gq ⟨22, 0, [], l⟩ 9 = 0 := Q9d hv.2 (by omega)
 simp only [Qy, hc, Qa, Ww]
 simp [Q22]
theorem Qi4 {l : List Q0} (hl : l.length ≤ 6) (hv : ∀ x ∈ l, OkV x) : ∀ (n i : Nat), i ≤ l.length → l.length - i < n → (∀ x ∈ l.take i, x.sz ≤ 40 ∧ x.txt ∧ Fine x ∧ Yq x (8 : Nat) = 0) →
  Zd NN l n ((l.take i).map fun x => x.nrm.byt).flatten (i : Int) = some true
 | 0, i, _, h, _ => by omega
 | n + 1, i, hi, hn, hok => by
  have hN : NN = 800000000 := rfl
  simp only [Zd, Qa, Ve, Q0h, U9, Wd, Wo]
  by_cases h : i < l.length
  ·have hx := List.getElem_mem h
   obtain ⟨b1, l1, l2⟩ := Qbb NN l[i] (by decide)
   rw [if_pos (by omega), List.getElem?_eq_getElem h]
   simp only [Option.bind_some, l1]
   cases b1 with
   | false => rfl
   | true =>
    obtain ⟨s1, t1⟩ := l2 rfl
    have hf := Qr7 l[i] (hv _ hx) t1
    have w1 := Qd3 l[i] t1
    simp only [Bool.not_true, Bool.false_eq_true, if_false]
    rw [Q88 NN l[i] 8 hf (by omega) (by omega) (by omega)]
    simp only [Option.bind_some]
    by_cases hc : Gq l[i] 8 = 0
    ·rw [if_neg (show ¬ (Gq l[i] 8 ≠ 0) by simp [hc])]
     obtain ⟨hcv, _⟩ := Qdv hc
     have hb := Q72 l[i] s1 t1
     have hft := Q39 (fun x => x.nrm.byt) l i h
     have hlen : ((l.take i).map fun x => x.nrm.byt).flatten.length ≤ 17200 * 6 := by
      have : ∀ m : List Q0, (∀ x ∈ m, x.nrm.byt.length ≤ 17200) → (m.map fun x => x.nrm.byt).flatten.length ≤ 17200 * m.length := by
       intro m
       induction m with
       | nil => intro _; simp
       | cons x m ih =>
        intro h
        have h1 := h x (.head _)
        have h2 := ih (fun y hy => h y (.tail _ hy))
        simp only [List.map_cons, List.flatten_cons, List.length_append, List.length_cons]; omega
      have := this (l.take i) (fun x hx => Q72 x (hok x hx).1 (hok x hx).2.1)
      rw [List.length_take] at this; omega
     simp only []
     rw [if_neg (by simp), if_pos (by simp only [Nat.ble_eq]; omega), Qv _ (by omega), hft]
     exact_mod_cast Qi4 hl hv n (i + 1) (by omega) (by omega) (fun x hx => by
      rw [List.take_succ_eq_append_getElem h] at hx
      rcases List.mem_append.1 hx with hx | hx
      ·exact hok x hx
      ·have : x = l[i] := by simpa using hx
       subst this
       exact ⟨s1, t1, hf, hcv⟩)
    ·rw [if_pos (show Gq l[i] 8 ≠ 0 from hc), if_pos hc]
  ·rw [if_neg (by omega), List.take_of_length_le (by omega), Qxk]
   rw [List.take_of_length_le (by omega)] at hok
   simp only [Option.bind_some]
   have hf : Fine ⟨22, 0, [], l⟩ := (Q48 (k := 22) (n := 0) (l := l) (m := 8) (by omega) (by omega) (fun x hx => ⟨(hok x hx).2.2.1, (hok x hx).2.2.2, fun h => by omega⟩) (Q8w (by omega)) (by omega) (fun _ => rfl) (by omega) (by omega)).1
   have hsum : Q0.szs l ≤ 40 * l.length ∧ Q0.wgts l ≤ 17200 * l.length := by
    have : ∀ m : List Q0, (∀ x ∈ m, x.sz ≤ 40 ∧ x.txt) → Q0.szs m ≤ 40 * m.length ∧ Q0.wgts m ≤ 17200 * m.length := by
     intro m
     induction m with
     | nil => intro _; simp [Q0.szs, Q0.wgts]
     | cons x m ih =>
      intro h
      have h1 := h x (.head _)
      have h2 := ih (fun y hy => h y (.tail _ hy))
      have h3 := Qd3 x h1.2
      simp only [Q0.szs, Q0.wgts, List.length_cons]; omega
    exact this l (fun x hx => ⟨(hok x hx).1, (hok x hx).2.1⟩)
   rw [Q88 NN _ 9 hf (by rw [Q0.wgt_eq]; simp only []; simp; omega) (by rw [Q0.sz_eq]; simp only []; omega) (by rw [Q0.sz_eq]; simp only []; omega)]
   have hend := Qmc hl hok
   have hby : (⟨22, 0, [], l⟩ : Q0).nrm.byt = _ := (congrArg Q0.byt (Qo2 l)).trans (Qo7 (l := l.map Q0.nrm) (by rw [List.length_map]; omega))
   rw [List.length_map, List.map_map] at hby
   have hmm : (l.map (Q0.byt ∘ Q0.nrm)) = l.map fun x => x.nrm.byt := rfl
   rw [hmm] at hby
   have hal : (l.map fun x => x.nrm.byt).flatten.length ≤ 17200 * 6 := by
    have h1 := (Q4q (⟨22, 0, [], l.map Q0.nrm⟩ : Q0)).1
    have : ∀ m : List Q0, Q0.wgts (m.map Q0.nrm) = Q0.wgts m := by
     intro m
     induction m with
     | nil => rfl
     | cons x m ih => simp only [List.map_cons, Q0.wgts, Qca, ih]
    have h2 := Qqi (l := l) (f := fun x => x.nrm.byt.length) (g := fun x => 17200) (fun x hx => Q72 x (hok x hx).1 (hok x hx).2.1)
    rw [Q8i]
    have h3 : (l.map fun _ => 17200).sum = 17200 * l.length := by
     clear h1 h2 hby hend hmm hsum hf hok hv hi hn h
     induction l with
     | nil => rfl
     | cons x l ih => simp only [List.map_cons, List.sum_cons, List.length_cons]; have := ih (by simp at hl; omega); omega
    omega
   simp only [Option.bind_some]
   generalize hA : (l.map fun x => x.nrm.byt).flatten = A at *
   by_cases h0 : l.length = 0
   ·rw [if_neg (by omega)]
    rw [if_pos h0] at hby
    rw [← hby]; exact hend
   ·rw [if_pos (by omega)]
    rw [if_neg h0] at hby
    have e1 : IntKind.i64.wrap ((A.length : Int) + 1) = ((A.length + 1 : Nat) : Int) := by rw [Qv _ (by omega)]; push_cast; rfl
    have e4 : IntKind.i64.wrap ((A.length : Int) + 4) = ((A.length + 4 : Nat) : Int) := by rw [Qv _ (by omega)]; push_cast; rfl
    have b1 := Qh4 NN (A.length + 1) 1 (by omega) (by omega) (by decide)
    have b2 := Qh4 NN l.length 1 (by omega) (by omega) (by decide)
    have b3 := Qh4 NN (A.length + 4) 4 (by omega) (by omega) (by decide)
    have b4 := Qh4 NN l.length 4 (by omega) (by omega) (by decide)
    rw [show ((1 : Nat) : Int) = 1 from rfl] at b1 b2
    rw [show ((4 : Nat) : Int) = 4 from rfl] at b3 b4
    rw [e1, e4, G6 _ (by omega), G6 _ (by omega), G6 _ (by omega), b1, b2, b3, b4]
    simp only [Option.bind_some]
    rw [if_pos (by simp [Nat.ble_eq, Y7]), if_pos (by simp [Nat.ble_eq, Y7]), if_pos (by simp [Nat.ble_eq, Y7]; omega)]
    by_cases h1 : 254 < A.length
    ·rw [if_pos (by omega), if_pos (by simp [Nat.ble_eq, Y7]), if_pos (by simp [Nat.ble_eq, Y7]), if_pos (by simp [Nat.ble_eq, Y7]; omega)]
     rw [if_pos h1] at hby
     have e : (([208] ++ Ua (A.length + 4) 4) ++ Ua l.length 4) ++ A = (⟨22, 0, [], l⟩ : Q0).nrm.byt := by rw [hby]; simp
     rw [e]; exact hend
    ·rw [if_neg (by omega)]
     rw [if_neg h1] at hby
     have e : (([192] ++ Ua (A.length + 1) 1) ++ Ua l.length 1) ++ A = (⟨22, 0, [], l⟩ : Q0).nrm.byt := by rw [hby]; simp
     rw [e]; exact hend
theorem Qec (s : List UInt8) (l : List Q0) (hv : ∀ x ∈ l, OkV x) : Xi NN s l = some true := by
 have hN : NN = 800000000 := rfl
 simp only [Xi, Qs5, Option.bind_some, Qa, Bool.not_true, Bool.false_eq_true, if_false, Q0h, Wd]
 by_cases hs : s.length > 200
 ·rw [if_pos (by omega)]; rfl
 rw [if_neg (by omega)]
 by_cases hl : l.length > 6
 ·rw [show Q5 .gtr (l.length : Int) 6 = true by rw [Q0h]; omega]; rfl
 have hg : Q5 .gtr (l.length : Int) 6 = false := by rw [Bool.eq_false_iff]; intro h; rw [Q0h] at h; omega
 have hJ1 : Qm NN l = some true := by
  have := Qi4 (l := l) (by omega) hv NN 0 (by omega) (by rw [hN]; omega) (by simp)
  simpa [Qm] using this
 rw [hg]
 simp only [Zv, Qa, Bool.false_eq_true, if_false, hJ1]
 obtain ⟨r, e1, e2, e3, e4⟩ := Qq0 NN s 8 (by omega) (by decide)
 have hJ2 : Qx NN (some true) s false = some true := rfl
 simp only [e2, Option.bind_some, Ww, hJ2]
 by_cases he : r.2.2 = 0
 ·rw [if_pos he]
  by_cases hn : r.2.1 = (s.length : Int)
  ·rw [if_pos hn]
   obtain ⟨b3, l5, l6⟩ := Qbb NN r.1 (by decide)
   rw [l5]
   simp only [Option.bind_some]
   cases b3 with
   | false => exact hJ2
   | true =>
    obtain ⟨s1, t1⟩ := l6 rfl
    obtain ⟨hf, m, hm, hm2, hr, hc⟩ := e4 he
    have hm8 : m = 8 := by omega
    subst hm8
    have w1 := Qd3 r.1 t1
    have hcM : Gq r.1 8 = 0 := Q9d hc (by omega)
    have hnf := Qcg hf
    have hnc := Q9a r.1 _ hc
    have hncM : Gq r.1.nrm 8 = 0 := Q9d hnc (by omega)
    have nz := Qhe r.1
    have nw := Qca r.1
    have hle : r.1.nrm.byt.length ≤ s.length := by
     have := Qbl (m := 8) (Qj7 8) s (by omega) (by rw [← hr]; exact he)
     rw [← hr] at this
     omega
    have a1 : Wa NN s 8 = some (r.1.nrm.byt, 0) := by
     simp only [Wa, e1, Option.bind_some, Qa, U9]
     rw [if_neg (by simp [he]), if_neg (by simp [hn]), Q88 NN r.1 8 hf (by omega) (by omega) (by omega), if_neg (by simp [hcM])]
     rfl
    have a2 : Wa NN r.1.nrm.byt 8 = some (r.1.nrm.byt, 0) := by
     obtain ⟨q, f1, f2, f3, f4⟩ := Qq0 NN r.1.nrm.byt 8 (by omega) (by decide)
     have hq : q = (r.1.nrm, (r.1.nrm.byt.length : Int), 0) := by
      have h1 := Q9k 8 NN r.1.nrm.byt (by omega) (by rw [hN]; omega) (by omega)
      rw [Qpo hnf hnc (by omega)] at h1
      have h2 : some q = some _ := f2.symm.trans h1
      exact Option.some.inj h2
     subst hq
     simp only [Wa, f1, Option.bind_some, Qa, U9]
     rw [if_neg (by simp), if_neg (by simp), Q88 NN r.1.nrm 8 hnf (by omega) (by omega) (by omega), if_neg (by simp [hncM]), Qr5]
     rfl
    simp only [Qx, a1, a2, Option.bind_some, Qa, if_true, U9, Q0h]
    rw [if_neg (by simp), if_neg (by simp), if_neg (by omega)]
    simp [Qz, Q22]
  ·rw [if_neg hn]
 ·rw [if_neg he]
end
end Go.Av
