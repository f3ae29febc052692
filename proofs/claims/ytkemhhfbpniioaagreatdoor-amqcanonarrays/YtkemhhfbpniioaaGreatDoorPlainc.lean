/- The law. Part of a proof of a given statement: for every input the law returns true and the arguments read as before; no condition beyond the given row. -/
import Derived.Test.YtkemhhfbpniioaaGreatDoorPlainb
namespace Go.Av
noncomputable section
open Go.Proofs
set_option maxRecDepth 100000
theorem Qc8 (N : Nat) (v : Q0) (hf : Fine v) (h : v.sz + 1 < N) (h2 : v.sz < 1000000000) : Xu N v = some (decide (v = v.nrm)) := by
 simp only [Xu, Qa4 N v hf h h2, Option.bind_some, Qa8 N v v.nrm (by omega) h2]
theorem Q50 {α : Type} (f : Q0 → List α) (l : List Q0) (i : Nat) (h : i < l.length) : ((l.take i).map f).flatten ++ f l[i] = ((l.take (i + 1)).map f).flatten := by
 rw [List.take_succ_eq_append_getElem h, List.map_append, List.flatten_append]; simp
theorem Qb9 (f : Q0 → List UInt8) (l : List Q0) (i : Nat) : ((l.take i).map f).flatten.length ≤ (l.map f).flatten.length := by
 conv => rhs; rw [← List.take_append_drop i l, List.map_append, List.flatten_append, List.length_append]
 omega
theorem Q66 {v : Q0} (hw : v.wgt < 4000000000) : v.inn.length < 1000000000000000000 ∧ (v.Items.map Q0.byt).flatten.length < 1000000000000000000 ∧ (∀ c, (v.Items.map fun x => Yz c x x.inn).flatten.length < 1000000000000000000) ∧ ∀ x ∈ v.Items, x.wgt < 4000000000 := by
 have hwe := v.wgt_eq
 have h1 := (Q5r v).1
 have s1 : ∀ (f : Q0 → List UInt8) (l : List Q0), (∀ x ∈ l, (f x).length ≤ x.wgt) → (l.map f).flatten.length ≤ Q0.wgts l := by
  intro f l
  induction l with
  | nil => intro _; simp
  | cons x l ihl =>
   intro h
   have h1 := h x (.head _)
   have h2 := ihl (fun y hy => h y (.tail _ hy))
   simp only [List.map_cons, List.flatten_cons, List.length_append, Q0.wgts]; omega
 refine ⟨by omega, ?_, fun c => ?_, fun x hx => by have := Qk2 hx; omega⟩
 ·have := s1 Q0.byt v.Items (fun x _ => (Q5r x).2.1); omega
 ·have := s1 (fun x => Yz c x x.inn) v.Items (fun x _ => by have := (Q5r x).2.2 c; omega); omega
end
end Go.Av
namespace Go.Av
noncomputable section
open Go.Proofs
set_option maxRecDepth 100000
abbrev Qe0 := Q1
mutual
def Q0.frm : Q0 → Qe0
 | .mk k n t is => ⟨⟨k, n, t, is⟩, Q0.frms is, if k = 24 then Q0.elm ⟨k, n, t, is⟩ else 0, if 22 ≤ k ∧ k ≤ 24 then ((Q0.inn ⟨k, n, t, is⟩).length : Int) else 0⟩
def Q0.frms : List Q0 → List Qe0
 | [] => []
 | v :: l => v.frm :: Q0.frms l
end
theorem Qj4 : ∀ l, Q0.frms l = l.map Q0.frm
 | [] => rfl
 | v :: l => by rw [Q0.frms, Qj4 l]; rfl
theorem Q6c (v : Q0) : v.frm = ⟨v, v.Items.map Q0.frm, if v.Kind = 24 then v.elm else 0, if 22 ≤ v.Kind ∧ v.Kind ≤ 24 then (v.inn.length : Int) else 0⟩ := by
 cases v; rw [Q0.frm, Qj4]
theorem Qhx (v : Q0) : v.frm.v = v := by rw [Q6c]
theorem Q3i (v : Q0) : v.frm.kids = v.Items.map Q0.frm := by rw [Q6c]
theorem Gq (l : List Qe0) : (Q1.rows l).length = l.length := by rw [Q1.rows_eq, Vg]
theorem Qms (N : Nat) (code : Int) (v : Q0) (hc : ofB code = true) (hn : okU v.N') (h : v.Text.length < N) (hb : v.Text.length < 4611686018427387904) (hk : (ofS code).Kind ≠ 25) (hi : (ofS code).Items = true → 22 ≤ v.Kind ∧ v.Kind ≤ 24) (hl : v.inn.length < 1000000000000000000) :
  Zm N v.frm code = some (Jy code v v.inn) := by
 simp only [Zm, Yw, Qhx, Option.bind_some, Qlg N code v hn h hb, Q9, V5, Gq, Q3i, List.length_map, Jy]
 by_cases hi' : (ofS code).Items = false
 ·rw [if_pos (by simp [hi']), if_pos hi']
 ·have hi' : (ofS code).Items = true := by simpa using hi'
  rw [if_neg (show ¬ ((!(ofS code).Items) = true) by simp [hi']), if_neg hk, if_neg (show ¬ ((ofS code).Items = false) by simp [hi'])]
  by_cases hs : (ofS code).Sized = true
  ·have hw := ((Vj hc hi').1 hs).1
   rw [if_neg (show ¬ ((!(ofS code).Sized) = true) by simp [hs]), if_neg (show ¬ (ofS code).Width = 0 by omega)]
   by_cases h4 : (ofS code).Width = 4
   ·rw [if_pos h4]; simp [h4]
   ·rw [if_neg h4, Q6c]
    simp only [if_pos (hi hi')]
    rw [Z5 _ (by omega)]
    split
    ·rename_i h5
     rw [Q9g] at h5
     congr 1
     rw [Bool.eq_iff_iff, Q9g]; simp [h4]; omega
    ·rename_i h5
     rw [Q9g] at h5
     congr 1
     symm
     rw [decide_eq_false_iff_not]; omega
  ·have hs : (ofS code).Sized = false := by simpa using hs
   rw [if_pos (show (!(ofS code).Sized) = true by simp [hs]), if_pos (Qgk hc hi' hs)]
   congr 1
   rw [Bool.eq_iff_iff, V5]; simp
theorem Qbt {N : Nat} {k0 : Int → Option Int} {l : List Qe0} {s54 code : Int} {P : Qe0 → Bool} (hb : l.length < 1000000000) (hR : ∀ f ∈ l, Zm N f code = some (P f)) : ∀ (n k : Nat) (all : Bool), k ≤ l.length → l.length - k < n →
  X7 N k0 l s54 code n all (k : Int) = if (all && (l.drop k).all P) = true then some code else k0 (IntKind.i64.wrap (s54 + 1))
 | 0, k, all, _, h => by omega
 | n + 1, k, all, hk, hn => by
  simp only [X7, Q9, Wm, Gq, X3]
  by_cases h : k < l.length
  ·rw [if_pos (by omega), List.getElem?_eq_getElem h, List.drop_eq_getElem_cons h]
   simp only [Option.bind_some, hR _ (List.getElem_mem h)]
   rw [Z5 _ (by omega)]
   cases all with
   | false =>
    have ih := Qbt (N := N) (k0 := k0) (s54 := s54) hb hR n (k + 1) false (by omega) (by omega)
    rw [if_neg (by simp)]
    simp only [Bool.false_and] at ih ⊢
    exact_mod_cast ih
   | true =>
    have ih := Qbt (N := N) (k0 := k0) (s54 := s54) hb hR n (k + 1) (P l[k]) (by omega) (by omega)
    rw [if_pos rfl]
    simp only [List.all_cons, Bool.true_and]
    exact_mod_cast ih
  ·rw [if_neg (by omega), List.drop_of_length_le (by omega)]
   cases all <;> simp
theorem Qgf {N : Nat} {l : List Qe0} {v1 : List Int} {P : Int → Qe0 → Bool} (hb : l.length < 1000000000) (hb1 : v1.length < 1000) (hN : l.length < N) (hR : ∀ c ∈ v1, ∀ f ∈ l, Zm N f c = some (P c f)) : ∀ (n i : Nat), i ≤ v1.length → v1.length - i < n →
  Yd N l v1 n (i : Int) = some (((v1.drop i).find? (fun c => l.all (P c))).getD 0)
 | 0, i, _, h => by omega
 | n + 1, i, hi, hn => by
  simp only [Yd, Q9, Wm, Vg, X3]
  by_cases h : i < v1.length
  ·rw [if_pos (by omega), List.getElem?_eq_getElem h]
   simp only [Option.bind_some]
   have := Qbt (k0 := Yd N l v1 n) (s54 := (i : Int)) hb (hR _ (List.getElem_mem h)) N 0 true (by omega) (by omega)
   rw [show (0 : Int) = ((0 : Nat) : Int) from rfl, this, List.drop_zero, Bool.true_and, List.drop_eq_getElem_cons h, List.find?_cons]
   cases l.all (P v1[i]) with
   | true => simp
   | false =>
    rw [if_neg (by simp), Z5 _ (by omega)]
    exact_mod_cast Qgf hb hb1 hN hR n (i + 1) (by omega) (by omega)
  ·rw [if_neg (by omega), List.drop_of_length_le (by omega)]; simp
theorem Qgn (N : Nat) (k : Int) (l : List Qe0) (P : Int → Qe0 → Bool) (hb : l.length < 1000000000) (hN : l.length < N) (hN2 : 10 < N) (hR : ∀ c ∈ X4 k, ∀ f ∈ l, Zm N f c = some (P c f)) : Wl N k l = some (((X4 k).find? (fun c => l.all (P c))).getD 0) := by
 have hc := Q65 k
 simp only [Wl, Q01, Option.bind_some]
 have := Qgf (N := N) (v1 := X4 k) hb (by omega) hN hR N 0 (by omega) (by omega)
 rw [List.drop_zero] at this
 exact this
theorem Qdk (N : Nat) (k : Int) (l : List Q0) (hk : k ≠ 25) (hb : l.length < 1000000000) (hN : l.length < N) (hN2 : 10 < N) (hl : ∀ x ∈ l, x.Kind = k ∧ k ≤ 24 ∧ okU x.N' ∧ x.Text.length < N ∧ x.Text.length < 4611686018427387904 ∧ x.inn.length < 1000000000000000000) :
  Wl N k (l.map Q0.frm) = some (Q0f k (l.map fun x => (x, x.inn))) := by
 rw [Qgn N k (l.map Q0.frm) (fun c f => Jy c f.v f.v.inn) (by simpa using hb) (by simpa using hN) hN2 (fun c hc f hf => by
  obtain ⟨x, hx, rfl⟩ := List.mem_map.1 hf
  obtain ⟨h1, h2, h3, h4, h5, h6⟩ := hl x hx
  obtain ⟨d1, d2, d3⟩ := Q03 _ _ hc
  rw [Qhx]
  exact Qms N c x d1 h3 h4 h5 (by omega) (fun hi => by rw [(Q6q c d1).items, d3] at hi; simp at hi; omega) h6)]
 unfold Q0f Qm0
 congr 3
 funext c
 rw [List.all_map, List.all_map]
 congr 1
 funext x
 simp only [Function.comp, Qhx]
theorem Qkr : X4 25 = [0] := by decide +kernel
theorem Qg8 (N : Nat) (v : Q0) (m : Int) (hf : Fine v) (hc : Yx v m = 0) (hw : v.wgt < 4000000000) (hN : 300100 ≤ N) : Xo N v.frm = some (if v.Kind = 25 then 0 else v.cod) := by
 have ht := hf.text
 have hk := Q3f hc
 simp only [Xo, Qhx]
 by_cases h5 : v.Kind = 25
 ·rw [if_pos h5, h5, Qgn N 25 [v.frm] (fun _ _ => true) (by simp) (by simp; omega) (by omega) (fun c hc f hf => by
   rw [Qkr] at hc
   have : c = 0 := by simpa using hc
   subst this
   obtain ⟨o1, o2, o3⟩ := of0
   simp only [Zm, Yw, Option.bind_some, Q9, V5]
   rw [if_neg (by simp [o3]), if_pos o2]), Qkr]
  rfl
 ·rw [if_neg h5]
  have := Qdk N v.Kind [v] h5 (by simp) (by simp; omega) (by omega) (fun x hx => by
   have : x = v := by simpa using hx
   subst this
   exact ⟨rfl, by omega, hf.num, by omega, by omega, (Q66 hw).1⟩)
  rw [show [v.frm] = [v].map Q0.frm from rfl, this]
  rfl
def G4 (s : List UInt8) : List Int := s.map fun b => (b.toNat : Int)
theorem Q24 (s t : List UInt8) : G4 (s ++ t) = G4 s ++ G4 t := by simp [G4]
theorem Q0g (s : List UInt8) : (G4 s).length = s.length := by simp [G4]
theorem Qjg (N : Nat) (b : List Int) (s : List UInt8) (h : b.length + s.length < 17592186040000) : Xe N ⟨b⟩ s = some ((), ⟨b ++ G4 s⟩) := by
 simp only [Xe, Q9]
 split
 ·rename_i h1
  have : s = [] := List.length_eq_zero_iff.1 (by simpa using h1)
  subst this
  simp [G4]
 ·rw [if_pos (by rw [Nat.ble_eq]; omega)]; rfl
theorem Q11 (N : Nat) (b : List Int) (n w : Nat) (hn : n < 9223372036854775808) (hw : w ≤ 8) (hN : 10 < N) (h : b.length < 17592186030000) : Qz N ⟨b⟩ (n : Int) (w : Int) = some ((), ⟨b ++ G4 (Uc n w)⟩) := by
 simp only [Qz]
 rw [Q0b _ (by omega), Qep N n w (by omega) hw hN]
 simp only [Option.bind_some]
 rw [Qjg N b _ (by rw [X6]; omega)]
 rfl
theorem Qra {c : Int} (h : 0 ≤ c ∧ c < 256) : Uc c.toNat 1 = [Q8m c] := by
 rw [Q5s]
 simp only [Nat.pow_zero, Nat.div_one, Uc, Q8m]
 rw [Nat.mod_eq_of_lt (by omega)]
theorem Qsl {R : Q2 → Qe0 → Option (Unit × Q2)} {N : Nat} {f : Qe0} {l : List Q0} (hk : f.kids = l.map Q0.frm) (hb : l.length < 1000000000) {b : List Int} (hbl : b.length + (l.map Q0.byt).flatten.length < 17592186030000)
  (hR : ∀ x ∈ l, ∀ b : List Int, b.length + x.byt.length < 17592186030000 → R ⟨⟨b⟩⟩ x.frm = some ((), ⟨⟨b ++ G4 x.byt⟩⟩)) : ∀ (n i : Nat), i ≤ l.length → l.length - i < n →
  Zv R N f n (i : Int) (b ++ G4 ((l.take i).map Q0.byt).flatten) = some ((), ⟨⟨b ++ G4 (l.map Q0.byt).flatten⟩⟩) ∧
  Zw R N f n (i : Int) (b ++ G4 ((l.take i).map Q0.byt).flatten) = some ((), ⟨⟨b ++ G4 (l.map Q0.byt).flatten⟩⟩)
 | 0, i, _, h => by omega
 | n + 1, i, hi, hn => by
  simp only [Zv, Zw, Q9, Wm, Gq, hk, List.length_map, X3, List.getElem?_map]
  by_cases h : i < l.length
  ·have hft := Q50 Q0.byt l i h
   have h1 := Qb9 Q0.byt l (i + 1)
   rw [← hft, List.length_append] at h1
   rw [if_pos (by omega), if_pos (by omega), List.getElem?_eq_getElem h]
   simp only [Option.map_some, Option.bind_some, hR _ (List.getElem_mem h) _ (show (b ++ G4 ((l.take i).map Q0.byt).flatten).length + l[i].byt.length < 17592186030000 by rw [List.length_append, Q0g]; omega)]
   rw [Z5 _ (by omega), List.append_assoc, ← Q24, hft]
   obtain ⟨ih1, ih2⟩ := Qsl (N := N) hk hb hbl hR n (i + 1) (by omega) (by omega)
   exact ⟨by exact_mod_cast ih1, by exact_mod_cast ih2⟩
  ·rw [if_neg (by omega), if_neg (by omega), List.take_of_length_le (by omega)]
   exact ⟨rfl, rfl⟩
theorem Qtz {R : Q2 → Int → Qe0 → Option (Unit × Q2)} {N : Nat} {f : Qe0} {l : List Q0} {c : Int} (hk : f.kids = l.map Q0.frm) (hel : f.element = c) (hb : l.length < 1000000000) {b : List Int} (hbl : b.length + (l.map fun x => Yz c x x.inn).flatten.length < 17592186030000)
  (hR : ∀ x ∈ l, ∀ b : List Int, b.length + (Yz c x x.inn).length < 17592186030000 → R ⟨⟨b⟩⟩ c x.frm = some ((), ⟨⟨b ++ G4 (Yz c x x.inn)⟩⟩)) : ∀ (n i : Nat), i ≤ l.length → l.length - i < n →
  Zx R N f n (i : Int) (b ++ G4 ((l.take i).map fun x => Yz c x x.inn).flatten) = some ((), ⟨⟨b ++ G4 (l.map fun x => Yz c x x.inn).flatten⟩⟩)
 | 0, i, _, h => by omega
 | n + 1, i, hi, hn => by
  simp only [Zx, Q9, Wm, Gq, hk, hel, List.length_map, X3, List.getElem?_map]
  by_cases h : i < l.length
  ·have hft := Q50 (fun x => Yz c x x.inn) l i h
   have h1 := Qb9 (fun x => Yz c x x.inn) l (i + 1)
   rw [← hft, List.length_append] at h1
   rw [if_pos (by omega), List.getElem?_eq_getElem h]
   simp only [Option.map_some, Option.bind_some, hR _ (List.getElem_mem h) _ (show (b ++ G4 ((l.take i).map fun x => Yz c x x.inn).flatten).length + (Yz c l[i] l[i].inn).length < 17592186030000 by rw [List.length_append, Q0g]; omega)]
   rw [Z5 _ (by omega), List.append_assoc, ← Q24, hft]
   exact_mod_cast Qtz (N := N) hk hel hb hbl hR n (i + 1) (by omega) (by omega)
  ·rw [if_neg (by omega), List.take_of_length_le (by omega)]
theorem Qkb {code : Int} (h : ofB code = true) (hi : (ofS code).Items = true) (hs : (ofS code).Sized = true) : ∃ w : Nat, (ofS code).Width = (w : Int) ∧ w ≤ 4 := by
 rcases ((Vj h hi).1 hs).1 with h | h
 ·exact ⟨1, h, by omega⟩
 ·exact ⟨4, h, by omega⟩
def WP (v : Q0) : Prop :=
  (∀ c, (ofB c = true ∧ (ofS c).Kind = v.Kind ∧ v.Kind ≠ 25 ∧ Jy c v v.inn = true) → ∀ N, 2 * v.sz + 300999 ≤ N → ∀ b : List Int, b.length + (Yz c v v.inn).length < 17592186030000 → X1 N ⟨⟨b⟩⟩ c v.frm = some ((), ⟨⟨b ++ G4 (Yz c v v.inn)⟩⟩)) ∧
  ∀ N, 2 * v.sz + 301000 ≤ N → ∀ b : List Int, b.length + v.byt.length < 17592186030000 → Z2 N ⟨⟨b⟩⟩ v.frm = some ((), ⟨⟨b ++ G4 v.byt⟩⟩)
theorem Qkm (v : Q0) : ∀ m : Int, Fine v → Yx v m = 0 → v.wgt < 4000000000 → v.sz < 1000000000 → WP v := by
 induction v using Q0.ind with
 | h v ih =>
  intro m hf hc hw hz
  have hs := v.sz_eq
  have hsl := Q0.szs_len v.Items
  obtain ⟨l1, l2, l3, l4⟩ := Q66 hw
  have htx := hf.text
  have hit : ∀ x ∈ v.Items, ∃ m', Yx x m' = 0 := fun x hx => by
   rcases U1 hc with ⟨k1, k2, k3⟩ | ⟨_, _, _, _, _, _, k7⟩
   ·rw [(Wx k3).2.2.2.1] at hx; cases hx
   ·exact ⟨_, (k7 x hx).1⟩
  have hsx : ∀ x ∈ v.Items, x.sz + 1 ≤ v.sz := fun x hx => by have := Q0.szs_mem _ x hx; omega
  have hI : ∀ x ∈ v.Items, WP x := fun x hx => by
   obtain ⟨m', hm⟩ := hit x hx
   exact ih x hx m' (hf.items x hx) hm (l4 x hx) (by have := hsx x hx; omega)
  have hP : ∀ c, (ofB c = true ∧ (ofS c).Kind = v.Kind ∧ v.Kind ≠ 25 ∧ Jy c v v.inn = true) → ∀ N, 2 * v.sz + 300999 ≤ N → ∀ b : List Int, b.length + (Yz c v v.inn).length < 17592186030000 → X1 N ⟨⟨b⟩⟩ c v.frm = some ((), ⟨⟨b ++ G4 (Yz c v v.inn)⟩⟩) := by
   rintro c ⟨c1, c2, c3, c4⟩ N hN b hb
   obtain ⟨N, rfl⟩ : ∃ N', N = N' + 1 := ⟨N - 1, by omega⟩
   show Y3 (Z2 N) (X1 N) N ⟨⟨b⟩⟩ c v.frm = _
   simp only [Y3, Yw, Qhx, Option.bind_some, Q9, V5, Gq, Q3i, List.length_map]
   have hd : Yz c v v.inn = if (ofS c).Items = false then (Qb8 c v).1 else if (ofS c).Sized = false then [] else Uc (v.inn.length + (ofS c).Width.toNat) (ofS c).Width.toNat ++ (Uc v.Items.length (ofS c).Width.toNat ++ v.inn) := rfl
   by_cases hi : (ofS c).Items = false
   ·rw [if_pos (by simp [hi]), Qrc N c v hf.num (by omega) (by omega) (by omega)]
    rw [if_pos hi] at hd
    rw [hd] at hb ⊢
    simp only [Option.bind_some]
    rw [Qjg N b _ (by omega)]
    rfl
   ·have hi : (ofS c).Items = true := by simpa using hi
    rw [if_neg (by simp [hi])]
    rw [if_neg (by simp [hi])] at hd
    have hkk : 22 ≤ v.Kind ∧ v.Kind ≤ 24 := by
     have h1 := hi
     rw [(Q6q c c1).items, c2] at h1
     have := Q3f hc
     simp at h1; omega
    by_cases hs' : (ofS c).Sized = true
    ·rw [if_pos hs']
     rw [if_neg (by simp [hs'])] at hd
     obtain ⟨w, hw1, hw2⟩ := Qkb c1 hi hs'
     rw [hw1, Int.toNat_natCast] at hd
     rw [hd] at hb ⊢
     simp only [List.length_append, X6] at hb
     have hin : v.frm.inner = (v.inn.length : Int) := by rw [Q6c]; simp only [if_pos hkk]
     rw [hw1, hin, Z5 _ (by omega), show ((w : Int) + (v.inn.length : Int)) = ((v.inn.length + w : Nat) : Int) by push_cast; omega,
      Q11 N b _ w (by omega) (by omega) (by omega) (by omega)]
     simp only [Option.bind_some]
     rw [Q11 N _ _ w (by omega) (by omega) (by omega) (by rw [List.length_append, Q0g, X6]; omega)]
     simp only [Option.bind_some, c2]
     by_cases h4 : v.Kind = 24
     ·rw [if_pos h4]
      obtain ⟨e1, e2⟩ := Qgi hf hc h4
      obtain ⟨d1, d2, d3⟩ := Q03 _ _ e1
      have hr := Q31 d1
      have hel : v.frm.element = v.elm := by rw [Q6c]; simp only [if_pos h4]
      have hin2 := Q5f v
      rw [if_pos h4] at hin2
      have hl2 := congrArg List.length hin2
      simp only [List.length_cons] at hl2
      rw [hel, show v.elm = ((v.elm.toNat : Nat) : Int) by omega, show (1 : Int) = ((1 : Nat) : Int) from rfl,
       Q11 N _ _ 1 (by omega) (by omega) (by omega) (by simp only [List.length_append, Q0g, X6]; omega)]
      simp only [Option.bind_some]
      rw [Qra hr]
      rcases U1 hc with ⟨k1, k2, k3⟩ | ⟨k1, k2, k3, k4, k5, k6, k7⟩
      ·omega
      have hnn := (Gg k4).2.1 h4
      have := Qtz (R := X1 N) (N := N) (f := v.frm) (l := v.Items) (c := v.elm) (Q3i v) hel (by omega) (b := b ++ G4 (Uc (v.inn.length + w) w) ++ G4 (Uc v.Items.length w) ++ G4 [Q8m v.elm])
       (by simp only [List.length_append, Q0g, X6, List.length_cons, List.length_nil]; omega)
       (fun x hx b' hb' => (hI x hx).1 v.elm ⟨d1, by
        have := (k7 x hx).2 h4
        rw [Q15 (k7 x hx).1] at this
        rw [d3, this], by
        have := (k7 x hx).2 h4
        rw [Q15 (k7 x hx).1] at this
        omega, e2 x hx⟩ N (by have := hsx x hx; omega) b' hb') N 0 (by omega) (by omega)
      simp only [List.take_zero, List.map_nil, List.flatten_nil, G4, List.append_nil] at this
      have e : (b ++ G4 (Uc (v.inn.length + w) w) ++ G4 (Uc v.Items.length w) ++ G4 [Q8m v.elm] ++ G4 ((v.Items.map fun x => Yz v.elm x x.inn).flatten)) = b ++ G4 (Uc (v.inn.length + w) w ++ (Uc v.Items.length w ++ v.inn)) := by
       have hi3 : G4 v.inn = G4 [Q8m v.elm] ++ G4 ((v.Items.map fun x => Yz v.elm x x.inn).flatten) := by rw [← Q24]; exact congrArg G4 hin2
       rw [Q24, Q24, hi3]
       simp only [List.append_assoc]
      rw [← e]
      exact this
     ·rw [if_neg h4]
      have hin2 := Q5f v
      rw [if_neg h4, if_neg c3] at hin2
      have hl2 := congrArg List.length hin2
      have := (Qsl (R := Z2 N) (N := N) (f := v.frm) (l := v.Items) (Q3i v) (by omega) (b := b ++ G4 (Uc (v.inn.length + w) w) ++ G4 (Uc v.Items.length w))
       (by simp only [List.length_append, Q0g, X6]; omega)
       (fun x hx b' hb' => (hI x hx).2 N (by have := hsx x hx; omega) b' hb') N 0 (by omega) (by omega)).1
      simp only [List.take_zero, List.map_nil, List.flatten_nil, G4, List.append_nil] at this
      have e : (b ++ G4 (Uc (v.inn.length + w) w) ++ G4 (Uc v.Items.length w) ++ G4 (v.Items.map Q0.byt).flatten) = b ++ G4 (Uc (v.inn.length + w) w ++ (Uc v.Items.length w ++ v.inn)) := by
       rw [Q24, Q24, ← hin2]
       simp only [List.append_assoc]
      rw [← e]
      exact this
    ·have hs' : (ofS c).Sized = false := by simpa using hs'
     rw [if_neg (by simp [hs'])]
     rw [if_pos hs'] at hd
     have hk := (Vj c1 hi).2 hs'
     unfold Jy at c4
     rw [if_neg (by simp [hi]), if_pos (Qgk c1 hi hs')] at c4
     have hl0 : v.Items = [] := List.length_eq_zero_iff.1 (by simpa using c4)
     rw [hd, if_neg (by omega)]
     have := (Qsl (R := Z2 N) (N := N) (f := v.frm) (l := v.Items) (Q3i v) (by omega) (b := b) (by rw [hl0]; simp; omega) (fun x hx => by rw [hl0] at hx; cases hx) N 0 (by omega) (by omega)).2
     rw [hl0] at this
     simpa [G4] using this
  refine ⟨hP, fun N hN b hb => ?_⟩
  obtain ⟨N, rfl⟩ : ∃ N', N = N' + 1 := ⟨N - 1, by omega⟩
  show Xk (Z2 N) (X1 N) N ⟨⟨b⟩⟩ v.frm = _
  simp only [Xk, Qg8 N v m hf hc hw (by omega), Option.bind_some]
  have hbe := Qdx v
  have hbl := congrArg List.length hbe
  by_cases h5 : v.Kind = 25
  ·rw [if_pos h5] at hbe hbl ⊢
   simp only [List.length_cons] at hbl
   have hn := Q11 N b 0 1 (by omega) (by omega) (by omega) (by omega)
   rw [show ((0 : Nat) : Int) = 0 from rfl, show ((1 : Nat) : Int) = 1 from rfl] at hn
   rw [hn]
   simp only [Option.bind_some]
   obtain ⟨N, rfl⟩ : ∃ N', N = N' + 1 := ⟨N - 1, by omega⟩
   show ((Y3 (Z2 N) (X1 N) N ⟨⟨b ++ G4 (Uc 0 1)⟩⟩ 0 v.frm).bind _) = _
   obtain ⟨o1, o2, o3⟩ := of0
   have o4 : (ofS 0).Sized = false := by decide +kernel
   simp only [Y3, Yw, Option.bind_some, Q9, V5]
   rw [if_neg (by simp [o3]), if_neg (by simp [o4]), if_neg (by omega)]
   have := (Qsl (R := Z2 N) (N := N) (f := v.frm) (l := v.Items) (Q3i v) (by omega) (b := b ++ G4 (Uc 0 1))
    (by simp only [List.length_append, Q0g, X6]; omega)
    (fun x hx b' hb' => (hI x hx).2 N (by have := hsx x hx; omega) b' hb') N 0 (by omega) (by omega)).2
   simp only [List.take_zero, List.map_nil, List.flatten_nil, G4, List.append_nil] at this
   have h0 : (((0 : Nat) : Int)) = 0 := rfl
   rw [h0] at this
   simp only [G4] at *
   rw [this]
   simp only [Option.bind_some]
   rw [hbe]
   simp [Uc]
  ·rw [if_neg h5] at hbe hbl ⊢
   simp only [List.length_cons] at hbl
   obtain ⟨g1, g2⟩ := Qld hf hc h5
   obtain ⟨d1, d2, d3⟩ := Q03 _ _ g1
   have hr := Q31 d1
   have hn := Q11 N b v.cod.toNat 1 (by omega) (by omega) (by omega) (by omega)
   rw [Qra hr, show ((v.cod.toNat : Nat) : Int) = v.cod by omega, show ((1 : Nat) : Int) = 1 from rfl] at hn
   rw [hn]
   simp only [Option.bind_some]
   rw [hP v.cod ⟨d1, d3, h5, g2⟩ N (by omega) _ (by rw [List.length_append, Q0g]; simp; omega)]
   simp only [Option.bind_some]
   rw [hbe]
   simp [G4]
end
end Go.Av
namespace Go.Av
noncomputable section
open Go.Proofs
set_option maxRecDepth 100000
theorem Qlc (v : Q0) : v.byt.length = 1 + (if v.Kind = 25 then (v.Items.map Q0.byt).flatten.length else (Yz v.cod v v.inn).length) := by
 rw [Qdx]
 split <;> simp <;> omega
theorem Qg4 {R : Qe0 → Int → Option Int} {N : Nat} {f : Qe0} {l : List Q0} (hk : f.kids = l.map Q0.frm) (hb : l.length < 1000000000) (hl : (l.map Q0.byt).flatten.length < 1000000000000000000) (hN : 300100 ≤ N)
  (hv : ∀ x ∈ l, (∃ m, Yx x m = 0) ∧ Fine x ∧ x.wgt < 4000000000) (hR : ∀ x ∈ l, R x.frm (if x.Kind = 25 then 0 else x.cod) = some ((if x.Kind = 25 then (x.Items.map Q0.byt).flatten.length else (Yz x.cod x x.inn).length : Nat) : Int)) : ∀ (n i : Nat), i ≤ l.length → l.length - i < n →
  Y6 R N f n (((l.take i).map Q0.byt).flatten.length : Nat) (i : Int) = some (((l.map Q0.byt).flatten.length : Nat) : Int)
 | 0, i, _, h => by omega
 | n + 1, i, hi, hn => by
  simp only [Y6, Q9, Wm, Gq, hk, List.length_map, X3, List.getElem?_map]
  by_cases h : i < l.length
  ·have hft := Q50 Q0.byt l i h
   have h1 := Qb9 Q0.byt l (i + 1)
   rw [← hft, List.length_append] at h1
   obtain ⟨⟨m, h2⟩, h3, h4⟩ := hv _ (List.getElem_mem h)
   rw [if_pos (by omega), List.getElem?_eq_getElem h]
   simp only [Option.map_some, Option.bind_some, Qg8 N l[i] m h3 h2 h4 hN, hR _ (List.getElem_mem h)]
   have hbl := Qlc l[i]
   have e : (((l.take i).map Q0.byt).flatten.length : Int) + IntKind.i64.wrap (1 + ((if l[i].Kind = 25 then (l[i].Items.map Q0.byt).flatten.length else (Yz l[i].cod l[i] l[i].inn).length : Nat) : Int)) = ((((l.take (i + 1)).map Q0.byt).flatten.length : Nat) : Int) := by
    rw [← hft, List.length_append, hbl]
    rw [Z5 _ (by omega)]
    push_cast; rfl
   rw [e, Z5 _ (by rw [← hft, List.length_append]; omega), Z5 _ (by omega)]
   exact_mod_cast Qg4 (N := N) hk hb hl hN hv hR n (i + 1) (by omega) (by omega)
  ·rw [if_neg (by omega), List.take_of_length_le (by omega)]
def FP (v : Q0) : Prop :=
 (∀ N, 2 * v.sz + 301000 ≤ N → ∀ c, (ofB c = true ∧ (ofS c).Kind = v.Kind ∧ v.Kind ≠ 25 ∧ Jy c v v.inn = true) → Y0 N v.frm c = some ((Yz c v v.inn).length : Int)) ∧
 (∀ N, 2 * v.sz + 301000 ≤ N → v.Kind = 25 → Y0 N v.frm 0 = some ((v.Items.map Q0.byt).flatten.length : Int)) ∧
 ∀ N, 2 * v.sz + 300999 ≤ N → ∀ e i, Zh N ⟨v, v.Items.map Q0.frm, e, i⟩ = some ((v.Items.map Q0.byt).flatten.length : Int)
theorem Qiv (v : Q0) : ∀ m : Int, Fine v → Yx v m = 0 → v.wgt < 4000000000 → v.sz < 1000000000 → FP v := by
 induction v using Q0.ind with
 | h v ih =>
  intro m hf hc hw hz
  have hs := v.sz_eq
  have hsl := Q0.szs_len v.Items
  obtain ⟨l1, l2, l3, l4⟩ := Q66 hw
  have htx := hf.text
  have hit : ∀ x ∈ v.Items, ∃ m', Yx x m' = 0 := fun x hx => by
   rcases U1 hc with ⟨k1, k2, k3⟩ | ⟨_, _, _, _, _, _, k7⟩
   ·rw [(Wx k3).2.2.2.1] at hx; cases hx
   ·exact ⟨_, (k7 x hx).1⟩
  have hsx : ∀ x ∈ v.Items, x.sz + 1 ≤ v.sz := fun x hx => by have := Q0.szs_mem _ x hx; omega
  have hI : ∀ x ∈ v.Items, FP x := fun x hx => by
   obtain ⟨m', hm⟩ := hit x hx
   exact ih x hx m' (hf.items x hx) hm (l4 x hx) (by have := hsx x hx; omega)
  have hW : ∀ N, 2 * v.sz + 300999 ≤ N → ∀ e i, Zh N ⟨v, v.Items.map Q0.frm, e, i⟩ = some ((v.Items.map Q0.byt).flatten.length : Int) := by
   intro N hN e i
   obtain ⟨N, rfl⟩ : ∃ N', N = N' + 1 := ⟨N - 1, by omega⟩
   have := Qg4 (R := Y0 N) (N := N) (f := ⟨v, v.Items.map Q0.frm, e, i⟩) (l := v.Items) rfl (by omega) l2 (by omega) (fun x hx => ⟨hit x hx, hf.items x hx, l4 x hx⟩) (fun x hx => by
    obtain ⟨p1, p2, _⟩ := hI x hx
    obtain ⟨m', hm⟩ := hit x hx
    have := hsx x hx
    by_cases h5 : x.Kind = 25
    ·rw [if_pos h5, if_pos h5]; exact p2 N (by omega) h5
    ·rw [if_neg h5, if_neg h5]
     obtain ⟨g1, g2⟩ := Qld (hf.items x hx) hm h5
     obtain ⟨d1, d2, d3⟩ := Q03 _ _ g1
     exact p1 N (by omega) x.cod ⟨d1, d3, h5, g2⟩) N 0 (by omega) (by omega)
   exact this
  refine ⟨fun N hN c hcc => ?_, fun N hN h5 => ?_, hW⟩
  ·obtain ⟨c1, c2, c3, c4⟩ := hcc
   obtain ⟨N, rfl⟩ : ∃ N', N = N' + 1 := ⟨N - 1, by omega⟩
   show Yr (Y0 N) (Zh N) N v.frm c = _
   simp only [Yr, Yw, Option.bind_some, Q9, V5, Qhx]
   rw [if_neg (by omega)]
   have hww := Qbf c
   by_cases hi : (ofS c).Items = true
   ·rw [if_pos hi]
    have hkk : 22 ≤ v.Kind ∧ v.Kind ≤ 24 := by
     have h1 := hi
     rw [(Q6q c c1).items, c2] at h1
     have := Q3f hc
     simp at h1; omega
    by_cases hs' : (ofS c).Sized = true
    ·rw [if_pos hs']
     have hin : v.frm.inner = (v.inn.length : Int) := by rw [Q6c]; simp only [if_pos hkk]
     have hd : (Yz c v v.inn).length = (ofS c).Width.toNat + ((ofS c).Width.toNat + v.inn.length) := by
      unfold Yz
      rw [if_neg (by simp [hi]), if_neg (by simp [hs'])]
      simp [X6]
     rw [hin, hd, Z5 (2 * (ofS c).Width) (by omega), Z5 _ (by omega)]
     congr 1
     omega
    ·have hs' : (ofS c).Sized = false := by simpa using hs'
     rw [if_neg (by simp [hs']), Qgk c1 hi hs']
     have hd : Yz c v v.inn = [] := by
      unfold Yz
      rw [if_neg (by simp [hi]), if_pos hs']
     rw [hd]; rfl
   ·have hi : (ofS c).Items = false := by simpa using hi
    rw [if_neg (by simp [hi])]
    have hf' : Vi c v = true := by unfold Jy at c4; rw [if_pos hi] at c4; exact c4
    have hd : Yz c v v.inn = Jj (ofS c) v := by unfold Yz; rw [if_pos hi, Qcj hf']
    have hl := Q3e hf'
    rw [hd, hl]
    by_cases hs' : (ofS c).Sized = true
    ·rw [if_pos hs', if_pos hs', Z5 _ (by omega)]
     congr 1; push_cast; omega
    ·rw [if_neg hs', if_neg hs']
     congr 1; push_cast; omega
  ·obtain ⟨N, rfl⟩ : ∃ N', N = N' + 1 := ⟨N - 1, by omega⟩
   show Yr (Y0 N) (Zh N) N v.frm 0 = _
   obtain ⟨o1, o2, o3⟩ := of0
   simp only [Yr, Yw, Option.bind_some, Q9, V5]
   rw [if_pos o2]
   rw [Q6c, hW N (by omega)]
   rfl
theorem Qg0 {N : Nat} {f : Qe0} {l : List Q0} {c : Int} (hk : f.kids = l.map Q0.frm) (he : f.element = c) (hb : l.length < 1000000000) (hl : (l.map fun x => Yz c x x.inn).flatten.length < 1000000000000000000)
  (hR : ∀ x ∈ l, Y0 N x.frm c = some ((Yz c x x.inn).length : Int)) : ∀ (n i : Nat), i ≤ l.length → l.length - i < n →
  Y7 N f n ((1 + ((l.take i).map fun x => Yz c x x.inn).flatten.length : Nat) : Int) (i : Int) = some ((1 + (l.map fun x => Yz c x x.inn).flatten.length : Nat) : Int)
 | 0, i, _, h => by omega
 | n + 1, i, hi, hn => by
  simp only [Y7, Q9, Wm, Gq, hk, he, List.length_map, X3, List.getElem?_map]
  by_cases h : i < l.length
  ·have hft := Q50 (fun x => Yz c x x.inn) l i h
   have h1 := Qb9 (fun x => Yz c x x.inn) l (i + 1)
   rw [← hft, List.length_append] at h1
   rw [if_pos (by omega), List.getElem?_eq_getElem h]
   simp only [Option.map_some, Option.bind_some, hR _ (List.getElem_mem h)]
   have e : ((1 + ((l.take i).map fun x => Yz c x x.inn).flatten.length : Nat) : Int) + ((Yz c l[i] l[i].inn).length : Int) = ((1 + ((l.take (i + 1)).map fun x => Yz c x x.inn).flatten.length : Nat) : Int) := by
    rw [← hft, List.length_append]
    push_cast; omega
   rw [e, Z5 _ (by rw [← hft, List.length_append]; omega), Z5 _ (by omega)]
   exact_mod_cast Qg0 (N := N) hk he hb hl hR n (i + 1) (by omega) (by omega)
  ·rw [if_neg (by omega), List.take_of_length_le (by omega)]
theorem Qdp {R : Q0 → Option Qe0} {N : Nat} {v : Q0} {m : Int} (hf : Fine v) (hc : Yx v m = 0) (hw : v.wgt < 4000000000) (hz : v.sz < 1000000000) (hN : 2 * v.sz + 301000 ≤ N) (hR : ∀ x ∈ v.Items, R x = some x.frm) : ∀ (n i : Nat), i ≤ v.Items.length → v.Items.length - i < n →
  Xp R N v n (i : Int) ((v.Items.take i).map Q0.frm) = some v.frm
 | 0, i, _, h => by omega
 | n + 1, i, hi, hn => by
  have hs := v.sz_eq
  have hsl := Q0.szs_len v.Items
  simp only [Xp, Q9, Wm, V5, Yg, X3]
  by_cases h : i < v.Items.length
  ·rw [if_pos (by omega), List.getElem?_eq_getElem h]
   simp only [Option.bind_some, hR _ (List.getElem_mem h)]
   rw [if_pos (by rw [Nat.ble_eq, List.length_map, List.length_take]; omega), Z5 _ (by omega)]
   have e : (v.Items.take i).map Q0.frm ++ [v.Items[i].frm] = (v.Items.take (i + 1)).map Q0.frm := by
    rw [List.take_succ_eq_append_getElem h, List.map_append]; rfl
   rw [e]
   exact_mod_cast Qdp hf hc hw hz hN hR n (i + 1) (by omega) (by omega)
  ·rw [if_neg (by omega), List.take_of_length_le (by omega)]
   obtain ⟨l1, l2, l3, l4⟩ := Q66 hw
   obtain ⟨_, _, hW⟩ := Qiv v m hf hc hw hz
   have hfe := Q6c v
   by_cases h4 : v.Kind = 24
   ·rcases U1 hc with ⟨k1, k2, k3⟩ | ⟨k1, k2, k3, k4, k5, k6, k7⟩
    ·omega
    have hnn := (Gg k4).2.1 h4
    rw [if_pos h4, Z5 _ (by omega), Qdk N v.N' v.Items (by omega) (by omega) (by omega) (by omega) (fun x hx => by
     have f1 := hf.items x hx
     have f2 := f1.text
     have f3 := (Q66 (l4 x hx)).1
     have := (k7 x hx).2 h4
     rw [Q15 (k7 x hx).1] at this
     exact ⟨this, by omega, f1.num, by omega, by omega, f3⟩)]
    have hel : Q0f v.N' (v.Items.map fun x => (x, x.inn)) = v.elm := rfl
    obtain ⟨e1, e2⟩ := Qgi hf hc h4
    obtain ⟨d1, d2, d3⟩ := Q03 _ _ e1
    have := Qg0 (N := N) (f := ⟨v, v.Items.map Q0.frm, v.elm, 0⟩) (l := v.Items) (c := v.elm) rfl rfl (by omega) (l3 v.elm) (fun x hx => by
     have := (k7 x hx).2 h4
     rw [Q15 (k7 x hx).1] at this
     exact (Qiv x _ (hf.items x hx) (k7 x hx).1 (l4 x hx) (by have := Q0.szs_mem _ x hx; omega)).1 N (by have := Q0.szs_mem _ x hx; omega) v.elm ⟨d1, by rw [d3, this], by omega, e2 x hx⟩) N 0 (by omega) (by omega)
    have hal : W8 N ⟨v, v.Items.map Q0.frm, v.elm, 0⟩ = some (v.inn.length : Int) := by
     have hin := Q5f v
     rw [if_pos h4] at hin
     have hil : v.inn.length = 1 + (v.Items.map fun x => Yz v.elm x x.inn).flatten.length := by rw [hin]; simp; omega
     rw [hil]; exact this
    simp only [Option.bind_some, hel, h4, hal]
    rw [if_neg (by decide), if_neg (by decide), if_pos (by decide), hfe]
    simp only [h4]
    rfl
   ·rw [if_neg h4]
    by_cases h2 : v.Kind = 22
    ·rw [if_pos (by simp [h2]), hW N (by omega), hfe]
     have hin := Q5f v
     rw [if_neg h4, if_neg (by omega)] at hin
     rw [hin]
     simp only [Option.bind_some, h2]
     rfl
    ·rw [if_neg (by simpa using h2)]
     by_cases h3 : v.Kind = 23
     ·rw [if_pos (by simp [h3]), hW N (by omega), hfe]
      have hin := Q5f v
      rw [if_neg h4, if_neg (by omega)] at hin
      rw [hin]
      simp only [Option.bind_some, h3]
      rfl
     ·rw [if_neg (by simpa using h3), if_neg (by simpa using h4), hfe, if_neg h4, if_neg (by omega)]
theorem Qct : ∀ (N : Nat) (v : Q0) (m : Int), Fine v → Yx v m = 0 → v.wgt < 4000000000 → v.sz < 1000000000 → 3 * v.sz + 301000 < N → V2 N v = some v.frm
 | 0, v, _, _, _, _, _, h => by omega
 | N + 1, v, m, hf, hc, hw, hz, hN => by
  have hs := v.sz_eq
  have hsl := Q0.szs_len v.Items
  obtain ⟨l1, l2, l3, l4⟩ := Q66 hw
  have := Qdp (R := V2 N) (N := N) hf hc hw hz (by omega) (fun x hx => by
   have h1 := Q0.szs_mem _ x hx
   have h2 : ∃ m', Yx x m' = 0 := by
    rcases U1 hc with ⟨k1, k2, k3⟩ | ⟨_, _, _, _, _, _, k7⟩
    ·rw [(Wx k3).2.2.2.1] at hx; cases hx
    ·exact ⟨_, (k7 x hx).1⟩
   obtain ⟨m', hm⟩ := h2
   exact Qct N x m' (hf.items x hx) hm (l4 x hx) (by omega) (by omega)) N 0 (by omega) (by omega)
  exact this
theorem Qk0 {v : Q0} {m : Int} (h : Q2y v m = 0) : Yx v m = 0 ∧ 0 ≤ m ∧ m ≤ 32 := by
 unfold Q2y at h
 split at h
 ·cases h
 ·rename_i hr
  unfold Q8n at hr
  simp at hr
  exact ⟨h, hr.1, hr.2⟩
theorem Qja (s : List UInt8) : (G4 s).map (fun n => UInt8.ofNat n.toNat) = s := by
 unfold G4
 rw [List.map_map]
 conv => rhs; rw [← List.map_id s]
 apply List.map_congr_left
 intro b _
 simp
theorem Qn3 (N : Nat) (v : Q0) (m : Int) (hf : Fine v) (hw : v.wgt < 4000000000) (hz : v.sz < 1000000000) (hN : 3 * v.sz + 302000 ≤ N) : Vd N v m = some (if Q2y v m ≠ 0 then ([], Q2y v m) else (v.nrm.byt, 0)) := by
 simp only [Vd, Qjo N v m hf (by omega) hz, Option.bind_some, Q9, J0]
 by_cases h : Q2y v m = 0
 ·obtain ⟨hc, _⟩ := Qk0 h
  have hnf := Qnk hf
  have hnc := Qkh v m hc
  have hnw : v.nrm.wgt < 4000000000 := by rw [Qqo]; exact hw
  have hnz : v.nrm.sz < 1000000000 := by rw [Qli]; exact hz
  have hl := (Q5r v.nrm).2.1
  rw [if_neg (by simp [h]), if_neg (by simp [h]), Qkp N v (by omega) hz]
  simp only [Option.bind_some]
  rw [Qct N v.nrm m hnf hnc hnw hnz (by rw [Qli]; omega)]
  simp only [Option.bind_some]
  rw [(Qkm v.nrm m hnf hnc hnw hnz).2 N (by rw [Qli]; omega) [] (by simp; omega)]
  simp only [Option.bind_some, Wg, List.nil_append, Qja]
 ·rw [if_pos h, if_pos h]
end
end Go.Av
namespace Go.Av
noncomputable section
open Go.Proofs
set_option maxRecDepth 100000
abbrev NN : Nat := 800000000
theorem Qpv : W6 NN = some true := by decide +kernel
theorem Qn7 {v : Q0} {m : Nat} (hf : Fine v) (hc : Yx v m = 0) (hw : v.wgt < 4000000000) : Yq (V4 m) v.byt = (v, (v.byt.length : Int), 0) := by
 have := (Qne v m hf hc hw).2 []
 rwa [List.append_nil] at this
end
end Go.Av
namespace Go.Av
noncomputable section
open Go.Proofs
set_option maxRecDepth 100000
theorem Q7m {c : Int} {v : Q0} {b : List UInt8} (hi : (ofS c).Items = true) (hs : (ofS c).Sized = true) : (Yz c v b).length = 2 * (ofS c).Width.toNat + b.length := by
 unfold Yz
 rw [if_neg (by simp [hi]), if_neg (by simp [hs])]
 simp [X6]; omega
theorem Qnh (f : Q0 → List UInt8) (l : List Q0) : (l.map f).flatten.length = (l.map fun x => (f x).length).sum := by
 induction l with
 | nil => rfl
 | cons x l ih => simp [ih]
theorem Qrq {l : List Q0} {f g : Q0 → Nat} (h : ∀ x ∈ l, f x ≤ g x) : (l.map f).sum ≤ (l.map g).sum := by
 induction l with
 | nil => simp
 | cons x l ih =>
  have h1 := h x (.head _)
  have h2 := ih (fun y hy => h y (.tail _ hy))
  simp only [List.map_cons, List.sum_cons]; omega
end
end Go.Av
namespace Go.Av
noncomputable section
open Go.Proofs
set_option maxRecDepth 100000
theorem Qj0 {v : Q0} {m : Int} (h : Yx v m = 0) (hm : 0 ≤ m ∧ m ≤ 32) : Q2y v m = 0 := by
 unfold Q2y
 rw [if_neg (by unfold Q8n; simp [hm]), h]
end
end Go.Av
namespace Go.Av
noncomputable section
open Go.Proofs
set_option maxRecDepth 100000
theorem Qbd (N : Nat) (v : Q0) (hn : okU v.N') (h : 1048576 < v.Text.length) : ∃ e, Qj N v = some e ∧ e ≠ 0 := by
 have e4 : (v.Text.length : Int) > 1048576 := by omega
 simp only [Qj, Q9, V5, Wm, Q47, J0, Jh, e4, if_true]
 by_cases h1 : v.Kind < 1
 ·simp only [h1, if_true]
  split <;> exact ⟨8, rfl, by decide⟩
 by_cases h2 : v.Kind > 21
 ·simp only [h1, h2, if_true, if_false]
  split <;> exact ⟨8, rfl, by decide⟩
 simp only [h1, h2, if_false, Qcz N v hn (by omega), Qge N v.Kind (by omega), Option.bind_some]
 repeat' split
 all_goals exact ⟨_, rfl, by decide⟩
structure Item (K : Int) (x : Q0) : Prop where
 kind : x.Kind = K
 ok : Xj x = 0
 text : x.Text.length ≤ 60
 nrm : x = x.nrm
 num : okU x.N'
theorem Item.items {K : Int} {x : Q0} (h : Item K x) : x.Items = [] := (Wx h.ok).2.2.2.1
theorem Item.fine {K : Int} {x : Q0} (h : Item K x) : Fine x := .mk _ h.num (by have := h.text; omega) (by simp [h.items])
theorem Item.wgt {K : Int} {x : Q0} (h : Item K x) : x.wgt ≤ 90 := by
 have := h.text
 rw [Q0.wgt_eq, h.items]; simp only [Q0.wgts]; omega
theorem Item.sz {K : Int} {x : Q0} (h : Item K x) : x.sz = 1 := by rw [Q0.sz_eq, h.items]; rfl
def Q7r (c : Int) (l : List Q0) : Nat := (l.map fun x => (Qb8 c x).1.length).sum
theorem Qj1 (c : Int) (l : List Q0) (i : Nat) (h : i < l.length) : Q7r c (l.take i) + (Qb8 c l[i]).1.length = Q7r c (l.take (i + 1)) := by
 unfold Q7r
 rw [List.take_succ_eq_append_getElem h]
 simp only [List.map_append, List.map_cons, List.map_nil, List.sum_append, List.sum_cons, List.sum_nil]; omega
theorem Qqa (c : Int) (x : Q0) {K : Int} (h : Item K x) : (Qb8 c x).1.length ≤ 76 := by
 have := Qis c x
 have := h.text
 omega
theorem Qeb (c : Int) {K : Int} : ∀ l : List Q0, (∀ x ∈ l, Item K x) → Q7r c l ≤ 76 * l.length
 | [], _ => by simp [Q7r]
 | x :: l, h => by
  have h1 := Qqa c x (h x (.head _))
  have h2 := Qeb c l (fun y hy => h y (.tail _ hy))
  unfold Q7r at h2 ⊢
  simp only [List.map_cons, List.sum_cons, List.length_cons]; omega
def Qby (l : List Q0) (c : Int) (d : Int) : Int := if l.all (fun x => Vi c x) = true then (if d < 0 then (Q7r c l : Int) else if (Q7r c l : Int) < d then (Q7r c l : Int) else d) else d
def Q96 (l : List Q0) : List Int → Int → Int
 | [], d => d
 | c :: cs, d => Q96 l cs (Qby l c d)
theorem Qc7 {N : Nat} (hN : N = 800000000) {K : Int} {k1 : Int → Int → Option Bool} {l : List Q0} {codes : List Int} {d : Int} {i : Nat} (hl : l.length ≤ 30) (hi : i < codes.length) (hcl : codes.length ≤ 4) (hx : ∀ x ∈ l, Item K x) : ∀ (n k : Nat), k ≤ l.length → l.length - k < n →
  Qo N k1 l codes d (i : Int) n (Q7r codes[i] (l.take k) : Nat) ((l.take k).all (fun x => Vi codes[i] x)) (k : Int) = k1 (Qby l codes[i] d) ((i + 1 : Nat) : Int)
 | 0, k, _, h => by omega
 | n + 1, k, hk, hn => by
  simp only [Qo, Q9, Wm, Yg, X3]
  have ei : IntKind.i64.wrap ((i : Int) + 1) = ((i + 1 : Nat) : Int) := by rw [Z5 _ (by omega)]; push_cast; rfl
  by_cases h : k < l.length
  ·have hxk := hx _ (List.getElem_mem h)
   have ht := Qj1 codes[i] l k h
   have hle := Qeb codes[i] (l.take (k + 1)) (fun x hx' => hx x (List.mem_of_mem_take hx'))
   rw [List.length_take] at hle
   rw [if_pos (by omega), List.getElem?_eq_getElem hi, List.getElem?_eq_getElem h]
   simp only [Option.bind_some]
   have htx := hxk.text
   rw [Qj5 N _ _ hxk.num (by omega) (by omega) (by omega)]
   simp only [Option.bind_some, Qna]
   rw [Z5 _ (by omega), Z5 _ (by omega), show ((Q7r codes[i] (l.take k) : Nat) : Int) + ((Qb8 codes[i] l[k]).1.length : Int) = ((Q7r codes[i] (l.take (k + 1)) : Nat) : Int) by omega]
   have ih := Qc7 hN (k1 := k1) (d := d) hl hi hcl hx n (k + 1) (by omega) (by omega)
   have ea : (l.take (k + 1)).all (fun x => Vi codes[i] x) = ((l.take k).all (fun x => Vi codes[i] x) && Vi codes[i] l[k]) := by
    rw [List.take_succ_eq_append_getElem h, List.all_append]; simp
   rw [ea] at ih
   cases hall : (l.take k).all (fun x => Vi codes[i] x) with
   | true =>
    rw [if_pos rfl]
    rw [hall, Bool.true_and] at ih
    exact_mod_cast ih
   | false =>
    rw [if_neg (by simp)]
    rw [hall, Bool.false_and] at ih
    exact_mod_cast ih
  ·rw [if_neg (by omega), List.take_of_length_le (by omega), ei]
   unfold Qby
   by_cases hA : l.all (fun x => Vi codes[i] x) = true
   ·rw [if_pos hA, if_pos hA]
    by_cases h2 : d < 0
    ·rw [if_pos h2, if_pos h2]
    ·rw [if_neg h2, if_neg h2]
     by_cases h3 : (Q7r codes[i] l : Int) < d
     ·rw [if_pos h3, if_pos h3]
     ·rw [if_neg h3, if_neg h3]
   ·rw [if_neg hA, if_neg hA]
theorem Qd8 {N : Nat} (hN : N = 800000000) {K : Int} {l : List Q0} {y6 : Q0} {codes : List Int} {D : Int} (hl : l.length ≤ 30) (hcl : codes.length ≤ 4) (hx : ∀ x ∈ l, Item K x)
  (hend : ∀ n, Qc N l y6 l codes (n + 1) D ((codes.length : Nat) : Int) = some true) : ∀ (n i : Nat) (d : Int), i ≤ codes.length → codes.length - i < n → Q96 l (codes.drop i) d = D →
  Qc N l y6 l codes n d (i : Int) = some true
 | 0, i, _, _, h, _ => by omega
 | n + 1, i, d, hi, hn, hd => by
  by_cases h : i < codes.length
  ·simp only [Qc, Q9, Wm, Vg]
   rw [if_pos (by omega)]
   have := Qc7 hN (k1 := Qc N l y6 l codes n) (d := d) hl h hcl hx N 0 (by omega) (by omega)
   simp only [List.take_zero, List.all_nil, Q7r, List.map_nil, List.sum_nil, Int.natCast_zero] at this
   rw [this]
   rw [List.drop_eq_getElem_cons h, Q96] at hd
   exact Qd8 hN hl hcl hx hend n (i + 1) _ (by omega) (by omega) hd
  ·have : i = codes.length := by omega
   subst this
   rw [List.drop_length, Q96] at hd
   rw [hd]
   exact hend n
theorem Q9m {l : List Q0} : ∀ (cs : List Int) (d : Int), 0 ≤ d → (∀ c ∈ cs, l.all (fun x => Vi c x) = true → d ≤ Q7r c l) → Q96 l cs d = d
 | [], d, _, _ => rfl
 | c :: cs, d, h0, h => by
  have e : Qby l c d = d := by
   unfold Qby
   split
   ·rename_i h1
    have := h c (.head _) h1
    rw [if_neg (by omega), if_neg (by omega)]
   ·rfl
  rw [Q96, e]
  exact Q9m cs d h0 (fun c hc => h c (.tail _ hc))
theorem Q7w {l : List Q0} : ∀ (cs : List Int), cs.Pairwise (fun x y => (ofS x).Width ≤ (ofS y).Width) → (∃ c ∈ cs, l.all (fun x => Vi c x) = true) → Q96 l cs (-1) = (Q7r ((cs.find? (fun c => l.all (fun x => Vi c x))).getD 0) l : Int)
 | [], _, h => by obtain ⟨c, hc, _⟩ := h; cases hc
 | c :: cs, hp, h => by
  rw [Q96, List.find?_cons]
  obtain ⟨p1, p2⟩ := List.pairwise_cons.1 hp
  cases hc : l.all (fun x => Vi c x) with
  | true =>
   have e : Qby l c (-1) = Q7r c l := by
    unfold Qby
    rw [if_pos hc, if_pos (by omega)]
   rw [e]
   simp only [Option.getD_some]
   refine Q9m cs _ (by omega) (fun b hb hall => ?_)
   have : Q7r c l ≤ Q7r b l := by
    unfold Q7r
    refine Qrq (fun x hx => ?_)
    have f1 : Vi c x = true := List.all_eq_true.1 hc x hx
    have f2 : Vi b x = true := List.all_eq_true.1 hall x hx
    rw [Qcj f1, Qcj f2]
    exact longer f1 f2 (p1 b hb)
   omega
  | false =>
   have e : Qby l c (-1) = -1 := by
    unfold Qby
    rw [if_neg (by simp [hc])]
   rw [e]
   refine Q7w cs p2 ?_
   obtain ⟨b, hb, hall⟩ := h
   rcases List.mem_cons.1 hb with rfl | hb
   ·rw [hc] at hall; cases hall
   ·exact ⟨b, hb, hall⟩
theorem Qpe : X4 24 = [224, 240] := by decide +kernel
theorem Qss : ((ofS 224).Items = true ∧ (ofS 224).Width = 1 ∧ (ofS 224).Sized = true) ∧ ((ofS 240).Items = true ∧ (ofS 240).Width = 4 ∧ (ofS 240).Sized = true) := by decide +kernel
theorem Q9y {p q : Int → Bool} : ∀ (l : List Int), (∀ c ∈ l, p c = q c) → l.find? p = l.find? q
 | [], _ => rfl
 | c :: l, h => by
  rw [List.find?_cons, List.find?_cons, h c (.head _), Q9y l (fun b hb => h b (.tail _ hb))]
theorem Qdr {K : Int} {l : List Q0} (hK : 1 ≤ K ∧ K ≤ 21) (hl : l.length ≤ 30) (hl0 : l ≠ []) (hx : ∀ x ∈ l, Item K x) : ∃ D : Nat, Q96 l (X4 K) (-1) = (D : Int) ∧ D ≤ 2280 ∧ Fine ⟨24, K, [], l⟩ ∧ Yx ⟨24, K, [], l⟩ (1 : Nat) = 0 ∧ (⟨24, K, [], l⟩ : Q0).nrm = ⟨24, K, [], l⟩ ∧ (⟨24, K, [], l⟩ : Q0).wgt ≤ 3000 ∧
  ((⟨24, K, [], l⟩ : Q0).byt.length : Int) = (if 255 < D + 2 then (D : Int) + 10 else (D : Int) + 4) := by
 have hv := Q59 (k := 24) (n := K) (l := l) (m := 0) (by omega) (by omega) (fun x hx' => by
  have h := hx x hx'
  obtain ⟨c1, c2, _⟩ := Wx h.ok
  refine ⟨h.fine, ?_, fun _ => ?_⟩
  ·rw [Gp, if_neg (by omega), if_neg (by omega), if_pos (by omega)]; exact h.ok
  ·rw [h.kind, Q8z]; omega) (Qbv (by omega)) (by omega) (by omega) (by omega) (by omega)
 have hlast : ∀ x ∈ l, Jr K ∈ X4 K ∧ Vi (Jr K) x = true := fun x hx' => by
  have h := hx x hx'
  have := Qda h.num h.ok
  rwa [h.kind] at this
 have hex : ∃ c ∈ X4 K, l.all (fun x => Vi c x) = true := by
  match l, hl0 with
  | y :: t, _ => exact ⟨Jr K, (hlast y (.head _)).1, List.all_eq_true.2 (fun x hx' => (hlast x hx').2)⟩
 have hbest := Q7w (l := l) (X4 K) (Qek K) hex
 have hsay : ∀ c ∈ X4 K, ∀ x ∈ l, ∀ b, Jy c x b = Vi c x := fun c hc x hx' b => by
  obtain ⟨d1, d2, d3⟩ := Q03 _ _ hc
  unfold Jy
  rw [if_pos (Vn (Q6q c d1) (by omega))]
 have helm : (⟨24, K, [], l⟩ : Q0).elm = ((X4 K).find? (fun c => l.all (fun x => Vi c x))).getD 0 := by
  unfold Q0.elm Q0f
  congr 1
  refine Q9y _ (fun c hc => ?_)
  unfold Qm0 Q0.prs
  rw [List.all_map]
  show l.all ((fun p : Q0 × List UInt8 => Jy c p.1 p.2) ∘ fun x => (x, x.inn)) = _
  rw [Bool.eq_iff_iff, List.all_eq_true, List.all_eq_true]
  exact ⟨fun h x hx' => by have := h x hx'; simp only [Function.comp] at this; rwa [hsay c hc x hx'] at this, fun h x hx' => by simp only [Function.comp]; rw [hsay c hc x hx']; exact h x hx'⟩
 rw [← helm] at hbest
 obtain ⟨e1, _⟩ := Qgi hv.1 hv.2 rfl
 have e1 : (⟨24, K, [], l⟩ : Q0).elm ∈ X4 K := e1
 obtain ⟨d1, d2, d3⟩ := Q03 _ _ e1
 have hit : (ofS (⟨24, K, [], l⟩ : Q0).elm).Items = false := Vn (Q6q _ d1) (by omega)
 have hinn : (⟨24, K, [], l⟩ : Q0).inn.length = 1 + Q7r (⟨24, K, [], l⟩ : Q0).elm l := by
  rw [Q5f, if_pos rfl, List.length_cons, Qnh]
  unfold Q7r
  have : (l.map fun x => (Yz (⟨24, K, [], l⟩ : Q0).elm x x.inn).length) = l.map fun x => (Qb8 (⟨24, K, [], l⟩ : Q0).elm x).1.length := by
   apply List.map_congr_left
   intro x _
   unfold Yz
   rw [if_pos hit]
  show (l.map fun x => (Yz (⟨24, K, [], l⟩ : Q0).elm x x.inn).length).sum + 1 = _
  rw [this]; omega
 have hle := Qeb (⟨24, K, [], l⟩ : Q0).elm l hx
 refine ⟨Q7r (⟨24, K, [], l⟩ : Q0).elm l, hbest, by omega, hv.1, hv.2, ?_, ?_, ?_⟩
 ·rw [Q4q, Q80 ⟨by show (24 : Int) ≠ 11; decide, by show (24 : Int) ≠ 12; decide⟩]
  have : l.map Q0.nrm = l := by
   conv => rhs; rw [← List.map_id l]
   apply List.map_congr_left
   intro x hx'
   exact (hx x hx').nrm.symm
  show (⟨24, K, [], l.map Q0.nrm⟩ : Q0) = _
  rw [this]
 ·have : ∀ m : List Q0, (∀ x ∈ m, Item K x) → Q0.wgts m ≤ 90 * m.length := by
   intro m
   induction m with
   | nil => intro _; simp [Q0.wgts]
   | cons x m ih =>
    intro h
    have h1 := (h x (.head _)).wgt
    have h2 := ih (fun y hy => h y (.tail _ hy))
    simp only [Q0.wgts, List.length_cons]; omega
  have := this l hx
  rw [Q0.wgt_eq]; simp only [List.length_nil]; omega
 ·obtain ⟨⟨b1, b2, b3⟩, f1, f2, f3⟩ := Qss
  have s2 : Jy 224 ⟨24, K, [], l⟩ (⟨24, K, [], l⟩ : Q0).inn = decide ((⟨24, K, [], l⟩ : Q0).inn.length + 1 < 256) := by
   unfold Jy; rw [if_neg (by simp [b1]), if_neg (by omega), b2]
   rw [Bool.eq_iff_iff]; simp only [decide_eq_true_eq]; omega
  have s3 : Jy 240 ⟨24, K, [], l⟩ (⟨24, K, [], l⟩ : Q0).inn = true := by
   unfold Jy; rw [if_neg (by simp [f1]), if_neg (by omega), f2]; simp
  have hcod : (⟨24, K, [], l⟩ : Q0).cod = if (⟨24, K, [], l⟩ : Q0).inn.length + 1 < 256 then 224 else 240 := by
   unfold Q0.cod Q0f
   show ((X4 24).find? _).getD 0 = _
   rw [Qpe]
   simp only [List.find?_cons, Qm0, List.all_cons, List.all_nil, Bool.and_true, s2, s3]
   by_cases h : (⟨24, K, [], l⟩ : Q0).inn.length + 1 < 256
   ·rw [decide_eq_true h, if_pos h]; rfl
   ·rw [decide_eq_false h, if_neg h]; rfl
  rw [Qlc, if_neg (by show ¬ ((24 : Int) = 25); decide), hcod]
  by_cases h : (⟨24, K, [], l⟩ : Q0).inn.length + 1 < 256
  ·rw [if_pos h, Q7m b1 b3, b2, if_neg (by omega)]
   show ((1 + (2 * (1 : Int).toNat + _) : Nat) : Int) = _
   rw [hinn]; simp; omega
  ·rw [if_neg h, Q7m f1 f3, f2, if_pos (by omega)]
   show ((1 + (2 * (4 : Int).toNat + _) : Nat) : Int) = _
   rw [hinn]; simp; omega
theorem Qi1 {N : Nat} (hN : N = 800000000) {K : Int} {l : List Q0} {y6 : Q0} (hy : y6.Kind = K) (hK : 1 ≤ K ∧ K ≤ 21) (hl : l.length ≤ 30) (hl0 : l ≠ []) (hx : ∀ x ∈ l, Item K x) {D : Nat} (hD : Q96 l (X4 K) (-1) = (D : Int)) (n : Nat) :
  Qc N l y6 l (X4 K) (n + 1) (D : Int) (((X4 K).length : Nat) : Int) = some true := by
 obtain ⟨D', q1, q2, q3, q4, q5, q6, q7⟩ := Qdr hK hl hl0 hx
 have hDD : D' = D := by rw [hD] at q1; omega
 subst hDD
 have hku : IntKind.u64.wrap y6.Kind = K := by rw [hy, Q8z]; omega
 have hcM : Q2y ⟨24, K, [], l⟩ 1 = 0 := Qj0 q4 (by omega)
 have hsz : (⟨24, K, [], l⟩ : Q0).sz ≤ 31 := by
  have : ∀ m : List Q0, (∀ x ∈ m, Item K x) → Q0.szs m ≤ m.length := by
   intro m
   induction m with
   | nil => intro _; simp [Q0.szs]
   | cons x m ih =>
    intro h
    have h1 := (h x (.head _)).sz
    have h2 := ih (fun y hy => h y (.tail _ hy))
    simp only [Q0.szs, List.length_cons]; omega
  have := this l hx
  rw [Q0.sz_eq]; simp only []; omega
 have hbl := (Q5r (⟨24, K, [], l⟩ : Q0)).2.1
 simp only [Qc, Q9, Wm, Q47, Vg, hku]
 rw [if_neg (by omega), Qn3 N _ 1 q3 (by omega) (by omega) (by omega), if_neg (show ¬ (Q2y ⟨24, K, [], l⟩ 1 ≠ 0) from fun h => h hcM), q5]
 simp only [Option.bind_some]
 have hrd : Qp N (⟨24, K, [], l⟩ : Q0).byt 1 = some (⟨24, K, [], l⟩, ((⟨24, K, [], l⟩ : Q0).byt.length : Int), 0) := by
  have h1 := Qjv 1 N (⟨24, K, [], l⟩ : Q0).byt (by omega) (by omega) (by omega)
  rw [Qn7 q3 q4 (by omega)] at h1
  exact h1
 rw [if_neg (by omega), Z5 _ (by omega), hrd]
 simp only [Option.bind_some]
 have e2 : ∀ x : Int, Q8 .eql x x = true := fun x => by simp [Q8]
 by_cases h : (D' : Int) + 2 > 255
 ·rw [if_pos (by omega)] at q7
  rw [if_pos h, Z5 _ (by omega), q7]
  simp only [e2, if_true]
  rw [Q2v N _ _ (by omega) (by omega)]
  simp
 ·rw [if_neg (by omega)] at q7
  rw [if_neg h, Z5 _ (by omega), q7]
  simp only [e2, if_true]
  rw [Q2v N _ _ (by omega) (by omega)]
  simp
theorem Qcq {N : Nat} (hN : N = 800000000) {y6 : Q0} {t : List Q0} (hl : (y6 :: t).length ≤ 30) (hv : ∀ x ∈ y6 :: t, OkV x) : ∀ (n i : Nat), i ≤ (y6 :: t).length → (y6 :: t).length - i < n → (∀ x ∈ (y6 :: t).take i, Item y6.Kind x) →
  Qx N (y6 :: t) y6 n (i : Int) ((y6 :: t).take i) = some true
 | 0, i, _, h, _ => by omega
 | n + 1, i, hi, hn, hx => by
  have i0 : idx (y6 :: t) 0 = some y6 := rfl
  simp only [Qx, Q9, Wm, J0, Q47, Yg, X3, i0]
  by_cases h : i < (y6 :: t).length
  ·have hm := List.getElem_mem h
   have ho := hv _ hm
   have hnu : okU (y6 :: t)[i].N' := ⟨ho.num.1, ho.num.2⟩
   rw [if_pos (by omega), List.getElem?_eq_getElem h]
   simp only [Option.bind_some]
   by_cases hk : (y6 :: t)[i].Kind = y6.Kind
   ·rw [if_neg (by simp [hk])]
    by_cases hlong : 1048576 < (y6 :: t)[i].Text.length
    ·obtain ⟨e, e1, e2⟩ := Qbd N _ hnu hlong
     rw [e1]
     simp only [Option.bind_some]
     rw [if_pos e2]
    ·rw [Q26 N _ hnu (by omega) (by omega)]
     simp only [Option.bind_some]
     by_cases hc : Xj (y6 :: t)[i] = 0
     ·rw [if_neg (by simp [hc])]
      by_cases ht : (y6 :: t)[i].Text.length ≤ 60
      ·have hits : (y6 :: t)[i].Items = [] := (Wx hc).2.2.2.1
       have hf : Fine (y6 :: t)[i] := .mk _ hnu (by omega) (by simp [hits])
       have hs1 : (y6 :: t)[i].sz = 1 := by rw [Q0.sz_eq, hits]; rfl
       rw [if_neg (by omega), Qc8 N _ hf (by omega) (by omega)]
       simp only [Option.bind_some]
       by_cases hnr : (y6 :: t)[i] = (y6 :: t)[i].nrm
       ·rw [decide_eq_true hnr]
        simp only [Bool.not_true, Bool.false_eq_true, if_false]
        rw [if_pos (by rw [Nat.ble_eq, List.length_take]; omega), Z5 _ (by omega), ← List.take_succ_eq_append_getElem h]
        exact_mod_cast Qcq hN hl hv n (i + 1) (by omega) (by omega) (fun x hx' => by
         rw [List.take_succ_eq_append_getElem h] at hx'
         rcases List.mem_append.1 hx' with hx' | hx'
         ·exact hx x hx'
         ·have : x = (y6 :: t)[i] := by simpa using hx'
          rw [this]
          exact ⟨hk, hc, ht, hnr, hnu⟩)
       ·rw [decide_eq_false hnr]; rfl
      ·rw [if_pos (by omega)]
     ·rw [if_pos hc]
   ·rw [if_pos hk]
  ·have etk : (y6 :: t).take i = y6 :: t := List.take_of_length_le (by omega)
   rw [etk] at hx ⊢
   have hy := hx y6 (.head _)
   obtain ⟨c1, c2, _⟩ := Wx hy.ok
   rw [if_neg (by omega)]
   simp only [Option.bind_some]
   rw [Qey N _ (by omega)]
   simp only [Option.bind_some]
   obtain ⟨D, q1, _⟩ := Qdr (K := y6.Kind) ⟨c1, c2⟩ hl (by simp) hx
   have := Qd8 hN (y6 := y6) (D := (D : Int)) hl (Q65 y6.Kind) hx (Qi1 hN rfl ⟨c1, c2⟩ hl (by simp) hx q1) N 0 (-1) (by omega) (by have := Q65 y6.Kind; omega) (by rw [List.drop_zero]; exact q1)
   exact_mod_cast this
theorem Qjb {N : Nat} (hN : N = 800000000) (hlv : W6 N = some true) (l : List Q0) (hv : ∀ x ∈ l, OkV x) : Zq N l = some true := by
 simp only [Zq, hlv, Option.bind_some, Q9, Bool.not_true, Bool.false_eq_true, if_false, Q47, V5, Yg]
 by_cases hl : l.length > 30
 ·rw [if_pos (by omega)]
 rw [if_neg (by omega)]
 match l, hv with
 | [], _ => rw [if_pos (by simp)]
 | y6 :: t, hv =>
  have i0 : idx (y6 :: t) 0 = some y6 := rfl
  rw [if_neg (by simp; omega), i0]
  simp only [Option.bind_some]
  have := Qcq hN (by omega) hv N 0 (by omega) (by omega) (by simp)
  exact_mod_cast this
theorem Qbi (l : List Q0) (hv : ∀ x ∈ l, OkV x) : Zq 800000000 l = some true := Qjb rfl Qpv l hv
end
end Go.Av
