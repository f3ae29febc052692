/- The law. Part of a proof of a given statement: for every input the law returns true and the arguments read as before; no condition beyond the given row. -/
import Derived.Test.YtkemhhfbpniioaaGreatDoorPlainb
namespace Go.Av
noncomputable section
open Go.Proofs
set_option maxRecDepth 100000
theorem Q40 {α : Type} (f : Q0 → List α) (l : List Q0) (i : Nat) (h : i < l.length) : ((l.take i).map f).flatten ++ f l[i] = ((l.take (i + 1)).map f).flatten := by
 rw [List.take_succ_eq_append_getElem h, List.map_append, List.flatten_append]; simp
theorem Qak (f : Q0 → List UInt8) (l : List Q0) (i : Nat) : ((l.take i).map f).flatten.length ≤ (l.map f).flatten.length := by
 conv => rhs; rw [← List.take_append_drop i l, List.map_append, List.flatten_append, List.length_append]
 omega
theorem Q56 {v : Q0} (hw : v.wgt < 4000000000) : v.inn.length < 1000000000000000000 ∧ (v.Items.map Q0.byt).flatten.length < 1000000000000000000 ∧ (∀ c, (v.Items.map fun x => X1 c x x.inn).flatten.length < 1000000000000000000) ∧ ∀ x ∈ v.Items, x.wgt < 4000000000 := by
 have hwe := v.wgt_eq
 have h1 := (Q5b v).1
 have s1 : ∀ (f : Q0 → List UInt8) (l : List Q0), (∀ x ∈ l, (f x).length ≤ x.wgt) → (l.map f).flatten.length ≤ Q0.wgts l := by
  intro f l
  induction l with
  | nil => intro _; simp
  | cons x l ihl =>
   intro h
   have h1 := h x (.head _)
   have h2 := ihl (fun y hy => h y (.tail _ hy))
   simp only [List.map_cons, List.flatten_cons, List.length_append, Q0.wgts]; omega
 refine ⟨by omega, ?_, fun c => ?_, fun x hx => by have := Qit hx; omega⟩
 ·have := s1 Q0.byt v.Items (fun x _ => (Q5b x).2.1); omega
 ·have := s1 (fun x => X1 c x x.inn) v.Items (fun x _ => by have := (Q5b x).2.2 c; omega); omega
end
end Go.Av
namespace Go.Av
noncomputable section
open Go.Proofs
set_option maxRecDepth 100000
abbrev Qd8 := Q1
mutual
def Q0.frm : Q0 → Qd8
 | .mk k n t is => ⟨⟨k, n, t, is⟩, Q0.frms is, if k = 24 then Q0.elm ⟨k, n, t, is⟩ else 0, if 22 ≤ k ∧ k ≤ 24 then ((Q0.inn ⟨k, n, t, is⟩).length : Int) else 0⟩
def Q0.frms : List Q0 → List Qd8
 | [] => []
 | v :: l => v.frm :: Q0.frms l
end
theorem Qiz : ∀ l, Q0.frms l = l.map Q0.frm
 | [] => rfl
 | v :: l => by rw [Q0.frms, Qiz l]; rfl
theorem Q5t (v : Q0) : v.frm = ⟨v, v.Items.map Q0.frm, if v.Kind = 24 then v.elm else 0, if 22 ≤ v.Kind ∧ v.Kind ≤ 24 then (v.inn.length : Int) else 0⟩ := by
 cases v; rw [Q0.frm, Qiz]
theorem Qgy (v : Q0) : v.frm.v = v := by rw [Q5t]
theorem Q2r (v : Q0) : v.frm.kids = v.Items.map Q0.frm := by rw [Q5t]
theorem Gi (l : List Qd8) : (Q1.rows l).length = l.length := by rw [Q1.rows_eq, Uf]
theorem Qm0 (N : Nat) (code : Int) (v : Q0) (hc : ofB code = true) (hn : okU v.N') (h : v.Text.length < N) (hb : v.Text.length < 4611686018427387904) (hk : (ofS code).Kind ≠ 25) (hi : (ofS code).Items = true → 22 ≤ v.Kind ∧ v.Kind ≤ 24) (hl : v.inn.length < 1000000000000000000) :
  Ze N v.frm code = some (Q1w code v v.inn) := by
 simp only [Ze, Yj, Qgy, Option.bind_some, Qj8 N code v hn h hb, Q9, Wu, Gi, Q2r, List.length_map, Q1w]
 by_cases hi' : (ofS code).Items = false
 ·rw [if_pos (by simp [hi']), if_pos hi']
 ·have hi' : (ofS code).Items = true := by simpa using hi'
  rw [if_neg (show ¬ ((!(ofS code).Items) = true) by simp [hi']), if_neg hk, if_neg (show ¬ ((ofS code).Items = false) by simp [hi'])]
  by_cases hs : (ofS code).Sized = true
  ·have hw := ((V3 hc hi').1 hs).1
   rw [if_neg (show ¬ ((!(ofS code).Sized) = true) by simp [hs]), if_neg (show ¬ (ofS code).Width = 0 by omega)]
   by_cases h4 : (ofS code).Width = 4
   ·rw [if_pos h4]; simp [h4]
   ·rw [if_neg h4, Q5t]
    simp only [if_pos (hi hi')]
    rw [Za _ (by omega)]
    split
    ·rename_i h5
     rw [Q53] at h5
     congr 1
     rw [Bool.eq_iff_iff, Q53]; simp [h4]; omega
    ·rename_i h5
     rw [Q53] at h5
     congr 1
     symm
     rw [decide_eq_false_iff_not]; omega
  ·have hs : (ofS code).Sized = false := by simpa using hs
   rw [if_pos (show (!(ofS code).Sized) = true by simp [hs]), if_pos (Qg5 hc hi' hs)]
   congr 1
   rw [Bool.eq_iff_iff, Wu]; simp
theorem Qas {N : Nat} {k0 : Int → Option Int} {l : List Qd8} {s54 code : Int} {P : Qd8 → Bool} (hb : l.length < 1000000000) (hR : ∀ f ∈ l, Ze N f code = some (P f)) : ∀ (n k : Nat) (all : Bool), k ≤ l.length → l.length - k < n →
  Yr N k0 l s54 code n all (k : Int) = if (all && (l.drop k).all P) = true then some code else k0 (IntKind.i64.wrap (s54 + 1))
 | 0, k, all, _, h => by omega
 | n + 1, k, all, hk, hn => by
  simp only [Yr, Q9, Wn, Gi, X4]
  by_cases h : k < l.length
  ·rw [if_pos (by omega), List.getElem?_eq_getElem h, List.drop_eq_getElem_cons h]
   simp only [Option.bind_some, hR _ (List.getElem_mem h)]
   rw [Za _ (by omega)]
   cases all with
   | false =>
    have ih := Qas (N := N) (k0 := k0) (s54 := s54) hb hR n (k + 1) false (by omega) (by omega)
    rw [if_neg (by simp)]
    simp only [Bool.false_and] at ih ⊢
    exact_mod_cast ih
   | true =>
    have ih := Qas (N := N) (k0 := k0) (s54 := s54) hb hR n (k + 1) (P l[k]) (by omega) (by omega)
    rw [if_pos rfl]
    simp only [List.all_cons, Bool.true_and]
    exact_mod_cast ih
  ·rw [if_neg (by omega), List.drop_of_length_le (by omega)]
   cases all <;> simp
theorem Qet {N : Nat} {l : List Qd8} {v1 : List Int} {P : Int → Qd8 → Bool} (hb : l.length < 1000000000) (hb1 : v1.length < 1000) (hN : l.length < N) (hR : ∀ c ∈ v1, ∀ f ∈ l, Ze N f c = some (P c f)) : ∀ (n i : Nat), i ≤ v1.length → v1.length - i < n →
  Y6 N l v1 n (i : Int) = some (((v1.drop i).find? (fun c => l.all (P c))).getD 0)
 | 0, i, _, h => by omega
 | n + 1, i, hi, hn => by
  simp only [Y6, Q9, Wn, Uf, X4]
  by_cases h : i < v1.length
  ·rw [if_pos (by omega), List.getElem?_eq_getElem h]
   simp only [Option.bind_some]
   have := Qas (k0 := Y6 N l v1 n) (s54 := (i : Int)) hb (hR _ (List.getElem_mem h)) N 0 true (by omega) (by omega)
   rw [show (0 : Int) = ((0 : Nat) : Int) from rfl, this, List.drop_zero, Bool.true_and, List.drop_eq_getElem_cons h, List.find?_cons]
   cases l.all (P v1[i]) with
   | true => simp
   | false =>
    rw [if_neg (by simp), Za _ (by omega)]
    exact_mod_cast Qet hb hb1 hN hR n (i + 1) (by omega) (by omega)
  ·rw [if_neg (by omega), List.drop_of_length_le (by omega)]; simp
theorem Qeu (N : Nat) (k : Int) (l : List Qd8) (P : Int → Qd8 → Bool) (hb : l.length < 1000000000) (hN : l.length < N) (hN2 : 10 < N) (hR : ∀ c ∈ V7 k, ∀ f ∈ l, Ze N f c = some (P c f)) : W7 N k l = some (((V7 k).find? (fun c => l.all (P c))).getD 0) := by
 have hc := Qhl k
 simp only [W7, Gk, Option.bind_some]
 have := Qet (N := N) (v1 := V7 k) hb (by omega) hN hR N 0 (by omega) (by omega)
 rw [List.drop_zero] at this
 exact this
theorem Qbd (N : Nat) (k : Int) (l : List Q0) (hk : k ≠ 25) (hb : l.length < 1000000000) (hN : l.length < N) (hN2 : 10 < N) (hl : ∀ x ∈ l, x.Kind = k ∧ k ≤ 24 ∧ okU x.N' ∧ x.Text.length < N ∧ x.Text.length < 4611686018427387904 ∧ x.inn.length < 1000000000000000000) :
  W7 N k (l.map Q0.frm) = some (Q1p k (l.map fun x => (x, x.inn))) := by
 rw [Qeu N k (l.map Q0.frm) (fun c f => Q1w c f.v f.v.inn) (by simpa using hb) (by simpa using hN) hN2 (fun c hc f hf => by
  obtain ⟨x, hx, rfl⟩ := List.mem_map.1 hf
  obtain ⟨h1, h2, h3, h4, h5, h6⟩ := hl x hx
  obtain ⟨d1, d2, d3⟩ := Q0v _ _ hc
  rw [Qgy]
  exact Qm0 N c x d1 h3 h4 h5 (by omega) (fun hi => by rw [(Q8l c d1).items, d3] at hi; simp at hi; omega) h6)]
 unfold Q1p Qnf
 congr 3
 funext c
 rw [List.all_map, List.all_map]
 congr 1
 funext x
 simp only [Function.comp, Qgy]
theorem Qii : V7 25 = [0] := by decide +kernel
theorem Qg6 (N : Nat) (v : Q0) (m : Int) (hf : Fine v) (hc : Zf v m = 0) (hw : v.wgt < 4000000000) (hN : 300100 ≤ N) : Xb N v.frm = some (if v.Kind = 25 then 0 else v.cod) := by
 have ht := hf.text
 have hk := Q2u hc
 simp only [Xb, Qgy]
 by_cases h5 : v.Kind = 25
 ·rw [if_pos h5, h5, Qeu N 25 [v.frm] (fun _ _ => true) (by simp) (by simp; omega) (by omega) (fun c hc f hf => by
   rw [Qii] at hc
   have : c = 0 := by simpa using hc
   subst this
   obtain ⟨o1, o2, o3⟩ := of0
   simp only [Ze, Yj, Option.bind_some, Q9, Wu]
   rw [if_neg (by simp [o3]), if_pos o2]), Qii]
  rfl
 ·rw [if_neg h5]
  have := Qbd N v.Kind [v] h5 (by simp) (by simp; omega) (by omega) (fun x hx => by
   have : x = v := by simpa using hx
   subst this
   exact ⟨rfl, by omega, hf.num, by omega, by omega, (Q56 hw).1⟩)
  rw [show [v.frm] = [v].map Q0.frm from rfl, this]
  rfl
def Js (s : List UInt8) : List Int := s.map fun b => (b.toNat : Int)
theorem Q1a (s t : List UInt8) : Js (s ++ t) = Js s ++ Js t := by simp [Js]
theorem Gv (s : List UInt8) : (Js s).length = s.length := by simp [Js]
theorem Qk6 (N : Nat) (b : List Int) (s : List UInt8) (h : b.length + s.length < 17592186040000) : Yy N ⟨b⟩ s = some ((), ⟨b ++ Js s⟩) := by
 simp only [Yy, Q9]
 split
 ·rename_i h1
  have : s = [] := List.length_eq_zero_iff.1 (by simpa using h1)
  subst this
  simp [Js]
 ·rw [if_pos (by rw [Nat.ble_eq]; omega)]; rfl
theorem Q0p (N : Nat) (b : List Int) (n w : Nat) (hn : n < 9223372036854775808) (hw : w ≤ 8) (hN : 10 < N) (h : b.length < 17592186030000) : Qt N ⟨b⟩ (n : Int) (w : Int) = some ((), ⟨b ++ Js (U2 n w)⟩) := by
 simp only [Qt]
 rw [Q01 _ (by omega), Qe9 N n w (by omega) hw hN]
 simp only [Option.bind_some]
 rw [Qk6 N b _ (by rw [X5]; omega)]
 rfl
theorem Qqs {c : Int} (h : 0 ≤ c ∧ c < 256) : U2 c.toNat 1 = [Q76 c] := by
 rw [Q5g]
 simp only [Nat.pow_zero, Nat.div_one, U2, Q76]
 rw [Nat.mod_eq_of_lt (by omega)]
theorem Qr2 {R : Q2 → Qd8 → Option (Unit × Q2)} {N : Nat} {f : Qd8} {l : List Q0} (hk : f.kids = l.map Q0.frm) (hb : l.length < 1000000000) {b : List Int} (hbl : b.length + (l.map Q0.byt).flatten.length < 17592186030000)
  (hR : ∀ x ∈ l, ∀ b : List Int, b.length + x.byt.length < 17592186030000 → R ⟨⟨b⟩⟩ x.frm = some ((), ⟨⟨b ++ Js x.byt⟩⟩)) : ∀ (n i : Nat), i ≤ l.length → l.length - i < n →
  Zq R N f n (i : Int) (b ++ Js ((l.take i).map Q0.byt).flatten) = some ((), ⟨⟨b ++ Js (l.map Q0.byt).flatten⟩⟩) ∧
  Zo R N f n (i : Int) (b ++ Js ((l.take i).map Q0.byt).flatten) = some ((), ⟨⟨b ++ Js (l.map Q0.byt).flatten⟩⟩)
 | 0, i, _, h => by omega
 | n + 1, i, hi, hn => by
  simp only [Zq, Zo, Q9, Wn, Gi, hk, List.length_map, X4, List.getElem?_map]
  by_cases h : i < l.length
  ·have hft := Q40 Q0.byt l i h
   have h1 := Qak Q0.byt l (i + 1)
   rw [← hft, List.length_append] at h1
   rw [if_pos (by omega), if_pos (by omega), List.getElem?_eq_getElem h]
   simp only [Option.map_some, Option.bind_some, hR _ (List.getElem_mem h) _ (show (b ++ Js ((l.take i).map Q0.byt).flatten).length + l[i].byt.length < 17592186030000 by rw [List.length_append, Gv]; omega)]
   rw [Za _ (by omega), List.append_assoc, ← Q1a, hft]
   obtain ⟨ih1, ih2⟩ := Qr2 (N := N) hk hb hbl hR n (i + 1) (by omega) (by omega)
   exact ⟨by exact_mod_cast ih1, by exact_mod_cast ih2⟩
  ·rw [if_neg (by omega), if_neg (by omega), List.take_of_length_le (by omega)]
   exact ⟨rfl, rfl⟩
theorem Qs9 {R : Q2 → Int → Qd8 → Option (Unit × Q2)} {N : Nat} {f : Qd8} {l : List Q0} {c : Int} (hk : f.kids = l.map Q0.frm) (hel : f.element = c) (hb : l.length < 1000000000) {b : List Int} (hbl : b.length + (l.map fun x => X1 c x x.inn).flatten.length < 17592186030000)
  (hR : ∀ x ∈ l, ∀ b : List Int, b.length + (X1 c x x.inn).length < 17592186030000 → R ⟨⟨b⟩⟩ c x.frm = some ((), ⟨⟨b ++ Js (X1 c x x.inn)⟩⟩)) : ∀ (n i : Nat), i ≤ l.length → l.length - i < n →
  Zr R N f n (i : Int) (b ++ Js ((l.take i).map fun x => X1 c x x.inn).flatten) = some ((), ⟨⟨b ++ Js (l.map fun x => X1 c x x.inn).flatten⟩⟩)
 | 0, i, _, h => by omega
 | n + 1, i, hi, hn => by
  simp only [Zr, Q9, Wn, Gi, hk, hel, List.length_map, X4, List.getElem?_map]
  by_cases h : i < l.length
  ·have hft := Q40 (fun x => X1 c x x.inn) l i h
   have h1 := Qak (fun x => X1 c x x.inn) l (i + 1)
   rw [← hft, List.length_append] at h1
   rw [if_pos (by omega), List.getElem?_eq_getElem h]
   simp only [Option.map_some, Option.bind_some, hR _ (List.getElem_mem h) _ (show (b ++ Js ((l.take i).map fun x => X1 c x x.inn).flatten).length + (X1 c l[i] l[i].inn).length < 17592186030000 by rw [List.length_append, Gv]; omega)]
   rw [Za _ (by omega), List.append_assoc, ← Q1a, hft]
   exact_mod_cast Qs9 (N := N) hk hel hb hbl hR n (i + 1) (by omega) (by omega)
  ·rw [if_neg (by omega), List.take_of_length_le (by omega)]
theorem Qkb {code : Int} (h : ofB code = true) (hi : (ofS code).Items = true) (hs : (ofS code).Sized = true) : ∃ w : Nat, (ofS code).Width = (w : Int) ∧ w ≤ 4 := by
 rcases ((V3 h hi).1 hs).1 with h | h
 ·exact ⟨1, h, by omega⟩
 ·exact ⟨4, h, by omega⟩
def WP (v : Q0) : Prop :=
  (∀ c, (ofB c = true ∧ (ofS c).Kind = v.Kind ∧ v.Kind ≠ 25 ∧ Q1w c v v.inn = true) → ∀ N, 2 * v.sz + 300999 ≤ N → ∀ b : List Int, b.length + (X1 c v v.inn).length < 17592186030000 → Yn N ⟨⟨b⟩⟩ c v.frm = some ((), ⟨⟨b ++ Js (X1 c v v.inn)⟩⟩)) ∧
  ∀ N, 2 * v.sz + 301000 ≤ N → ∀ b : List Int, b.length + v.byt.length < 17592186030000 → Qx N ⟨⟨b⟩⟩ v.frm = some ((), ⟨⟨b ++ Js v.byt⟩⟩)
theorem Qku (v : Q0) : ∀ m : Int, Fine v → Zf v m = 0 → v.wgt < 4000000000 → v.sz < 1000000000 → WP v := by
 induction v using Q0.ind with
 | h v ih =>
  intro m hf hc hw hz
  have hs := v.sz_eq
  have hsl := Q0.szs_len v.Items
  obtain ⟨l1, l2, l3, l4⟩ := Q56 hw
  have htx := hf.text
  have hit : ∀ x ∈ v.Items, ∃ m', Zf x m' = 0 := fun x hx => by
   rcases Vo hc with ⟨k1, k2, k3⟩ | ⟨_, _, _, _, _, _, k7⟩
   ·rw [(Vx k3).2.2.2.1] at hx; cases hx
   ·exact ⟨_, (k7 x hx).1⟩
  have hsx : ∀ x ∈ v.Items, x.sz + 1 ≤ v.sz := fun x hx => by have := Q0.szs_mem _ x hx; omega
  have hI : ∀ x ∈ v.Items, WP x := fun x hx => by
   obtain ⟨m', hm⟩ := hit x hx
   exact ih x hx m' (hf.items x hx) hm (l4 x hx) (by have := hsx x hx; omega)
  have hP : ∀ c, (ofB c = true ∧ (ofS c).Kind = v.Kind ∧ v.Kind ≠ 25 ∧ Q1w c v v.inn = true) → ∀ N, 2 * v.sz + 300999 ≤ N → ∀ b : List Int, b.length + (X1 c v v.inn).length < 17592186030000 → Yn N ⟨⟨b⟩⟩ c v.frm = some ((), ⟨⟨b ++ Js (X1 c v v.inn)⟩⟩) := by
   rintro c ⟨c1, c2, c3, c4⟩ N hN b hb
   obtain ⟨N, rfl⟩ : ∃ N', N = N' + 1 := ⟨N - 1, by omega⟩
   show Zu (Qx N) (Yn N) N ⟨⟨b⟩⟩ c v.frm = _
   simp only [Zu, Yj, Qgy, Option.bind_some, Q9, Wu, Gi, Q2r, List.length_map]
   have hd : X1 c v v.inn = if (ofS c).Items = false then (Qnl c v).1 else if (ofS c).Sized = false then [] else U2 (v.inn.length + (ofS c).Width.toNat) (ofS c).Width.toNat ++ (U2 v.Items.length (ofS c).Width.toNat ++ v.inn) := rfl
   by_cases hi : (ofS c).Items = false
   ·rw [if_pos (by simp [hi]), Qq4 N c v hf.num (by omega) (by omega) (by omega)]
    rw [if_pos hi] at hd
    rw [hd] at hb ⊢
    simp only [Option.bind_some]
    rw [Qk6 N b _ (by omega)]
    rfl
   ·have hi : (ofS c).Items = true := by simpa using hi
    rw [if_neg (by simp [hi])]
    rw [if_neg (by simp [hi])] at hd
    have hkk : 22 ≤ v.Kind ∧ v.Kind ≤ 24 := by
     have h1 := hi
     rw [(Q8l c c1).items, c2] at h1
     have := Q2u hc
     simp at h1; omega
    by_cases hs' : (ofS c).Sized = true
    ·rw [if_pos hs']
     rw [if_neg (by simp [hs'])] at hd
     obtain ⟨w, hw1, hw2⟩ := Qkb c1 hi hs'
     rw [hw1, Int.toNat_natCast] at hd
     rw [hd] at hb ⊢
     simp only [List.length_append, X5] at hb
     have hin : v.frm.inner = (v.inn.length : Int) := by rw [Q5t]; simp only [if_pos hkk]
     rw [hw1, hin, Za _ (by omega), show ((w : Int) + (v.inn.length : Int)) = ((v.inn.length + w : Nat) : Int) by push_cast; omega,
      Q0p N b _ w (by omega) (by omega) (by omega) (by omega)]
     simp only [Option.bind_some]
     rw [Q0p N _ _ w (by omega) (by omega) (by omega) (by rw [List.length_append, Gv, X5]; omega)]
     simp only [Option.bind_some, c2]
     by_cases h4 : v.Kind = 24
     ·rw [if_pos h4]
      obtain ⟨e1, e2⟩ := Qjq hf hc h4
      obtain ⟨d1, d2, d3⟩ := Q0v _ _ e1
      have hr := Q2e d1
      have hel : v.frm.element = v.elm := by rw [Q5t]; simp only [if_pos h4]
      have hin2 := Q63 v
      rw [if_pos h4] at hin2
      have hl2 := congrArg List.length hin2
      simp only [List.length_cons] at hl2
      rw [hel, show v.elm = ((v.elm.toNat : Nat) : Int) by omega, show (1 : Int) = ((1 : Nat) : Int) from rfl,
       Q0p N _ _ 1 (by omega) (by omega) (by omega) (by simp only [List.length_append, Gv, X5]; omega)]
      simp only [Option.bind_some]
      rw [Qqs hr]
      rcases Vo hc with ⟨k1, k2, k3⟩ | ⟨k1, k2, k3, k4, k5, k6, k7⟩
      ·omega
      have hnn := (G5 k4).2.1 h4
      have := Qs9 (R := Yn N) (N := N) (f := v.frm) (l := v.Items) (c := v.elm) (Q2r v) hel (by omega) (b := b ++ Js (U2 (v.inn.length + w) w) ++ Js (U2 v.Items.length w) ++ Js [Q76 v.elm])
       (by simp only [List.length_append, Gv, X5, List.length_cons, List.length_nil]; omega)
       (fun x hx b' hb' => (hI x hx).1 v.elm ⟨d1, by
        have := (k7 x hx).2 h4
        rw [Q0f (k7 x hx).1] at this
        rw [d3, this], by
        have := (k7 x hx).2 h4
        rw [Q0f (k7 x hx).1] at this
        omega, e2 x hx⟩ N (by have := hsx x hx; omega) b' hb') N 0 (by omega) (by omega)
      simp only [List.take_zero, List.map_nil, List.flatten_nil, Js, List.append_nil] at this
      have e : (b ++ Js (U2 (v.inn.length + w) w) ++ Js (U2 v.Items.length w) ++ Js [Q76 v.elm] ++ Js ((v.Items.map fun x => X1 v.elm x x.inn).flatten)) = b ++ Js (U2 (v.inn.length + w) w ++ (U2 v.Items.length w ++ v.inn)) := by
       have hi3 : Js v.inn = Js [Q76 v.elm] ++ Js ((v.Items.map fun x => X1 v.elm x x.inn).flatten) := by rw [← Q1a]; exact congrArg Js hin2
       rw [Q1a, Q1a, hi3]
       simp only [List.append_assoc]
      rw [← e]
      exact this
     ·rw [if_neg h4]
      have hin2 := Q63 v
      rw [if_neg h4, if_neg c3] at hin2
      have hl2 := congrArg List.length hin2
      have := (Qr2 (R := Qx N) (N := N) (f := v.frm) (l := v.Items) (Q2r v) (by omega) (b := b ++ Js (U2 (v.inn.length + w) w) ++ Js (U2 v.Items.length w))
       (by simp only [List.length_append, Gv, X5]; omega)
       (fun x hx b' hb' => (hI x hx).2 N (by have := hsx x hx; omega) b' hb') N 0 (by omega) (by omega)).1
      simp only [List.take_zero, List.map_nil, List.flatten_nil, Js, List.append_nil] at this
      have e : (b ++ Js (U2 (v.inn.length + w) w) ++ Js (U2 v.Items.length w) ++ Js (v.Items.map Q0.byt).flatten) = b ++ Js (U2 (v.inn.length + w) w ++ (U2 v.Items.length w ++ v.inn)) := by
       rw [Q1a, Q1a, ← hin2]
       simp only [List.append_assoc]
      rw [← e]
      exact this
    ·have hs' : (ofS c).Sized = false := by simpa using hs'
     rw [if_neg (by simp [hs'])]
     rw [if_pos hs'] at hd
     have hk := (V3 c1 hi).2 hs'
     unfold Q1w at c4
     rw [if_neg (by simp [hi]), if_pos (Qg5 c1 hi hs')] at c4
     have hl0 : v.Items = [] := List.length_eq_zero_iff.1 (by simpa using c4)
     rw [hd, if_neg (by omega)]
     have := (Qr2 (R := Qx N) (N := N) (f := v.frm) (l := v.Items) (Q2r v) (by omega) (b := b) (by rw [hl0]; simp; omega) (fun x hx => by rw [hl0] at hx; cases hx) N 0 (by omega) (by omega)).2
     rw [hl0] at this
     simpa [Js] using this
  refine ⟨hP, fun N hN b hb => ?_⟩
  obtain ⟨N, rfl⟩ : ∃ N', N = N' + 1 := ⟨N - 1, by omega⟩
  show X7 (Qx N) (Yn N) N ⟨⟨b⟩⟩ v.frm = _
  simp only [X7, Qg6 N v m hf hc hw (by omega), Option.bind_some]
  have hbe := Qcy v
  have hbl := congrArg List.length hbe
  by_cases h5 : v.Kind = 25
  ·rw [if_pos h5] at hbe hbl ⊢
   simp only [List.length_cons] at hbl
   have hn := Q0p N b 0 1 (by omega) (by omega) (by omega) (by omega)
   rw [show ((0 : Nat) : Int) = 0 from rfl, show ((1 : Nat) : Int) = 1 from rfl] at hn
   rw [hn]
   simp only [Option.bind_some]
   obtain ⟨N, rfl⟩ : ∃ N', N = N' + 1 := ⟨N - 1, by omega⟩
   show ((Zu (Qx N) (Yn N) N ⟨⟨b ++ Js (U2 0 1)⟩⟩ 0 v.frm).bind _) = _
   obtain ⟨o1, o2, o3⟩ := of0
   have o4 : (ofS 0).Sized = false := by decide +kernel
   simp only [Zu, Yj, Option.bind_some, Q9, Wu]
   rw [if_neg (by simp [o3]), if_neg (by simp [o4]), if_neg (by omega)]
   have := (Qr2 (R := Qx N) (N := N) (f := v.frm) (l := v.Items) (Q2r v) (by omega) (b := b ++ Js (U2 0 1))
    (by simp only [List.length_append, Gv, X5]; omega)
    (fun x hx b' hb' => (hI x hx).2 N (by have := hsx x hx; omega) b' hb') N 0 (by omega) (by omega)).2
   simp only [List.take_zero, List.map_nil, List.flatten_nil, Js, List.append_nil] at this
   have h0 : (((0 : Nat) : Int)) = 0 := rfl
   rw [h0] at this
   simp only [Js] at *
   rw [this]
   simp only [Option.bind_some]
   rw [hbe]
   simp [U2]
  ·rw [if_neg h5] at hbe hbl ⊢
   simp only [List.length_cons] at hbl
   obtain ⟨g1, g2⟩ := Qjm hf hc h5
   obtain ⟨d1, d2, d3⟩ := Q0v _ _ g1
   have hr := Q2e d1
   have hn := Q0p N b v.cod.toNat 1 (by omega) (by omega) (by omega) (by omega)
   rw [Qqs hr, show ((v.cod.toNat : Nat) : Int) = v.cod by omega, show ((1 : Nat) : Int) = 1 from rfl] at hn
   rw [hn]
   simp only [Option.bind_some]
   rw [hP v.cod ⟨d1, d3, h5, g2⟩ N (by omega) _ (by rw [List.length_append, Gv]; simp; omega)]
   simp only [Option.bind_some]
   rw [hbe]
   simp [Js]
end
end Go.Av
namespace Go.Av
noncomputable section
open Go.Proofs
set_option maxRecDepth 100000
theorem Qpa (v : Q0) : v.byt.length = 1 + (if v.Kind = 25 then (v.Items.map Q0.byt).flatten.length else (X1 v.cod v v.inn).length) := by
 rw [Qcy]
 split <;> simp <;> omega
theorem Qfv {R : Qd8 → Int → Option Int} {N : Nat} {f : Qd8} {l : List Q0} (hk : f.kids = l.map Q0.frm) (hb : l.length < 1000000000) (hl : (l.map Q0.byt).flatten.length < 1000000000000000000) (hN : 300100 ≤ N)
  (hv : ∀ x ∈ l, (∃ m, Zf x m = 0) ∧ Fine x ∧ x.wgt < 4000000000) (hR : ∀ x ∈ l, R x.frm (if x.Kind = 25 then 0 else x.cod) = some ((if x.Kind = 25 then (x.Items.map Q0.byt).flatten.length else (X1 x.cod x x.inn).length : Nat) : Int)) : ∀ (n i : Nat), i ≤ l.length → l.length - i < n →
  Zv R N f n (((l.take i).map Q0.byt).flatten.length : Nat) (i : Int) = some (((l.map Q0.byt).flatten.length : Nat) : Int)
 | 0, i, _, h => by omega
 | n + 1, i, hi, hn => by
  simp only [Zv, Q9, Wn, Gi, hk, List.length_map, X4, List.getElem?_map]
  by_cases h : i < l.length
  ·have hft := Q40 Q0.byt l i h
   have h1 := Qak Q0.byt l (i + 1)
   rw [← hft, List.length_append] at h1
   obtain ⟨⟨m, h2⟩, h3, h4⟩ := hv _ (List.getElem_mem h)
   rw [if_pos (by omega), List.getElem?_eq_getElem h]
   simp only [Option.map_some, Option.bind_some, Qg6 N l[i] m h3 h2 h4 hN, hR _ (List.getElem_mem h)]
   have hbl := Qpa l[i]
   have e : (((l.take i).map Q0.byt).flatten.length : Int) + IntKind.i64.wrap (1 + ((if l[i].Kind = 25 then (l[i].Items.map Q0.byt).flatten.length else (X1 l[i].cod l[i] l[i].inn).length : Nat) : Int)) = ((((l.take (i + 1)).map Q0.byt).flatten.length : Nat) : Int) := by
    rw [← hft, List.length_append, hbl]
    rw [Za _ (by omega)]
    push_cast; rfl
   rw [e, Za _ (by rw [← hft, List.length_append]; omega), Za _ (by omega)]
   exact_mod_cast Qfv (N := N) hk hb hl hN hv hR n (i + 1) (by omega) (by omega)
  ·rw [if_neg (by omega), List.take_of_length_le (by omega)]
def FP (v : Q0) : Prop :=
 (∀ N, 2 * v.sz + 301000 ≤ N → ∀ c, (ofB c = true ∧ (ofS c).Kind = v.Kind ∧ v.Kind ≠ 25 ∧ Q1w c v v.inn = true) → Zt N v.frm c = some ((X1 c v v.inn).length : Int)) ∧
 (∀ N, 2 * v.sz + 301000 ≤ N → v.Kind = 25 → Zt N v.frm 0 = some ((v.Items.map Q0.byt).flatten.length : Int)) ∧
 ∀ N, 2 * v.sz + 300999 ≤ N → ∀ e i, Z8 N ⟨v, v.Items.map Q0.frm, e, i⟩ = some ((v.Items.map Q0.byt).flatten.length : Int)
theorem Qir (v : Q0) : ∀ m : Int, Fine v → Zf v m = 0 → v.wgt < 4000000000 → v.sz < 1000000000 → FP v := by
 induction v using Q0.ind with
 | h v ih =>
  intro m hf hc hw hz
  have hs := v.sz_eq
  have hsl := Q0.szs_len v.Items
  obtain ⟨l1, l2, l3, l4⟩ := Q56 hw
  have htx := hf.text
  have hit : ∀ x ∈ v.Items, ∃ m', Zf x m' = 0 := fun x hx => by
   rcases Vo hc with ⟨k1, k2, k3⟩ | ⟨_, _, _, _, _, _, k7⟩
   ·rw [(Vx k3).2.2.2.1] at hx; cases hx
   ·exact ⟨_, (k7 x hx).1⟩
  have hsx : ∀ x ∈ v.Items, x.sz + 1 ≤ v.sz := fun x hx => by have := Q0.szs_mem _ x hx; omega
  have hI : ∀ x ∈ v.Items, FP x := fun x hx => by
   obtain ⟨m', hm⟩ := hit x hx
   exact ih x hx m' (hf.items x hx) hm (l4 x hx) (by have := hsx x hx; omega)
  have hW : ∀ N, 2 * v.sz + 300999 ≤ N → ∀ e i, Z8 N ⟨v, v.Items.map Q0.frm, e, i⟩ = some ((v.Items.map Q0.byt).flatten.length : Int) := by
   intro N hN e i
   obtain ⟨N, rfl⟩ : ∃ N', N = N' + 1 := ⟨N - 1, by omega⟩
   have := Qfv (R := Zt N) (N := N) (f := ⟨v, v.Items.map Q0.frm, e, i⟩) (l := v.Items) rfl (by omega) l2 (by omega) (fun x hx => ⟨hit x hx, hf.items x hx, l4 x hx⟩) (fun x hx => by
    obtain ⟨p1, p2, _⟩ := hI x hx
    obtain ⟨m', hm⟩ := hit x hx
    have := hsx x hx
    by_cases h5 : x.Kind = 25
    ·rw [if_pos h5, if_pos h5]; exact p2 N (by omega) h5
    ·rw [if_neg h5, if_neg h5]
     obtain ⟨g1, g2⟩ := Qjm (hf.items x hx) hm h5
     obtain ⟨d1, d2, d3⟩ := Q0v _ _ g1
     exact p1 N (by omega) x.cod ⟨d1, d3, h5, g2⟩) N 0 (by omega) (by omega)
   exact this
  refine ⟨fun N hN c hcc => ?_, fun N hN h5 => ?_, hW⟩
  ·obtain ⟨c1, c2, c3, c4⟩ := hcc
   obtain ⟨N, rfl⟩ : ∃ N', N = N' + 1 := ⟨N - 1, by omega⟩
   show Yh (Zt N) (Z8 N) N v.frm c = _
   simp only [Yh, Yj, Option.bind_some, Q9, Wu, Qgy]
   rw [if_neg (by omega)]
   have hww := Qae c
   by_cases hi : (ofS c).Items = true
   ·rw [if_pos hi]
    have hkk : 22 ≤ v.Kind ∧ v.Kind ≤ 24 := by
     have h1 := hi
     rw [(Q8l c c1).items, c2] at h1
     have := Q2u hc
     simp at h1; omega
    by_cases hs' : (ofS c).Sized = true
    ·rw [if_pos hs']
     have hin : v.frm.inner = (v.inn.length : Int) := by rw [Q5t]; simp only [if_pos hkk]
     have hd : (X1 c v v.inn).length = (ofS c).Width.toNat + ((ofS c).Width.toNat + v.inn.length) := by
      unfold X1
      rw [if_neg (by simp [hi]), if_neg (by simp [hs'])]
      simp [X5]
     rw [hin, hd, Za (2 * (ofS c).Width) (by omega), Za _ (by omega)]
     congr 1
     omega
    ·have hs' : (ofS c).Sized = false := by simpa using hs'
     rw [if_neg (by simp [hs']), Qg5 c1 hi hs']
     have hd : X1 c v v.inn = [] := by
      unfold X1
      rw [if_neg (by simp [hi]), if_pos hs']
     rw [hd]; rfl
   ·have hi : (ofS c).Items = false := by simpa using hi
    rw [if_neg (by simp [hi])]
    have hf' : Q08 c v = true := by unfold Q1w at c4; rw [if_pos hi] at c4; exact c4
    have hd : X1 c v v.inn = Jc (ofS c) v := by unfold X1; rw [if_pos hi, Qn9 hf']
    have hl := Q2j hf'
    rw [hd, hl]
    by_cases hs' : (ofS c).Sized = true
    ·rw [if_pos hs', if_pos hs', Za _ (by omega)]
     congr 1; push_cast; omega
    ·rw [if_neg hs', if_neg hs']
     congr 1; push_cast; omega
  ·obtain ⟨N, rfl⟩ : ∃ N', N = N' + 1 := ⟨N - 1, by omega⟩
   show Yh (Zt N) (Z8 N) N v.frm 0 = _
   obtain ⟨o1, o2, o3⟩ := of0
   simp only [Yh, Yj, Option.bind_some, Q9, Wu]
   rw [if_pos o2]
   rw [Q5t, hW N (by omega)]
   rfl
theorem Qg9 {N : Nat} {f : Qd8} {l : List Q0} {c : Int} (hk : f.kids = l.map Q0.frm) (he : f.element = c) (hb : l.length < 1000000000) (hl : (l.map fun x => X1 c x x.inn).flatten.length < 1000000000000000000)
  (hR : ∀ x ∈ l, Zt N x.frm c = some ((X1 c x x.inn).length : Int)) : ∀ (n i : Nat), i ≤ l.length → l.length - i < n →
  Zw N f n ((1 + ((l.take i).map fun x => X1 c x x.inn).flatten.length : Nat) : Int) (i : Int) = some ((1 + (l.map fun x => X1 c x x.inn).flatten.length : Nat) : Int)
 | 0, i, _, h => by omega
 | n + 1, i, hi, hn => by
  simp only [Zw, Q9, Wn, Gi, hk, he, List.length_map, X4, List.getElem?_map]
  by_cases h : i < l.length
  ·have hft := Q40 (fun x => X1 c x x.inn) l i h
   have h1 := Qak (fun x => X1 c x x.inn) l (i + 1)
   rw [← hft, List.length_append] at h1
   rw [if_pos (by omega), List.getElem?_eq_getElem h]
   simp only [Option.map_some, Option.bind_some, hR _ (List.getElem_mem h)]
   have e : ((1 + ((l.take i).map fun x => X1 c x x.inn).flatten.length : Nat) : Int) + ((X1 c l[i] l[i].inn).length : Int) = ((1 + ((l.take (i + 1)).map fun x => X1 c x x.inn).flatten.length : Nat) : Int) := by
    rw [← hft, List.length_append]
    push_cast; omega
   rw [e, Za _ (by rw [← hft, List.length_append]; omega), Za _ (by omega)]
   exact_mod_cast Qg9 (N := N) hk he hb hl hR n (i + 1) (by omega) (by omega)
  ·rw [if_neg (by omega), List.take_of_length_le (by omega)]
theorem Qbp {R : Q0 → Option Qd8} {N : Nat} {v : Q0} {m : Int} (hf : Fine v) (hc : Zf v m = 0) (hw : v.wgt < 4000000000) (hz : v.sz < 1000000000) (hN : 2 * v.sz + 301000 ≤ N) (hR : ∀ x ∈ v.Items, R x = some x.frm) : ∀ (n i : Nat), i ≤ v.Items.length → v.Items.length - i < n →
  X9 R N v n (i : Int) ((v.Items.take i).map Q0.frm) = some v.frm
 | 0, i, _, h => by omega
 | n + 1, i, hi, hn => by
  have hs := v.sz_eq
  have hsl := Q0.szs_len v.Items
  simp only [X9, Q9, Wn, Wu, Ye, X4]
  by_cases h : i < v.Items.length
  ·rw [if_pos (by omega), List.getElem?_eq_getElem h]
   simp only [Option.bind_some, hR _ (List.getElem_mem h)]
   rw [if_pos (by rw [Nat.ble_eq, List.length_map, List.length_take]; omega), Za _ (by omega)]
   have e : (v.Items.take i).map Q0.frm ++ [v.Items[i].frm] = (v.Items.take (i + 1)).map Q0.frm := by
    rw [List.take_succ_eq_append_getElem h, List.map_append]; rfl
   rw [e]
   exact_mod_cast Qbp hf hc hw hz hN hR n (i + 1) (by omega) (by omega)
  ·rw [if_neg (by omega), List.take_of_length_le (by omega)]
   obtain ⟨l1, l2, l3, l4⟩ := Q56 hw
   obtain ⟨_, _, hW⟩ := Qir v m hf hc hw hz
   have hfe := Q5t v
   by_cases h4 : v.Kind = 24
   ·rcases Vo hc with ⟨k1, k2, k3⟩ | ⟨k1, k2, k3, k4, k5, k6, k7⟩
    ·omega
    have hnn := (G5 k4).2.1 h4
    rw [if_pos h4, Za _ (by omega), Qbd N v.N' v.Items (by omega) (by omega) (by omega) (by omega) (fun x hx => by
     have f1 := hf.items x hx
     have f2 := f1.text
     have f3 := (Q56 (l4 x hx)).1
     have := (k7 x hx).2 h4
     rw [Q0f (k7 x hx).1] at this
     exact ⟨this, by omega, f1.num, by omega, by omega, f3⟩)]
    have hel : Q1p v.N' (v.Items.map fun x => (x, x.inn)) = v.elm := rfl
    obtain ⟨e1, e2⟩ := Qjq hf hc h4
    obtain ⟨d1, d2, d3⟩ := Q0v _ _ e1
    have := Qg9 (N := N) (f := ⟨v, v.Items.map Q0.frm, v.elm, 0⟩) (l := v.Items) (c := v.elm) rfl rfl (by omega) (l3 v.elm) (fun x hx => by
     have := (k7 x hx).2 h4
     rw [Q0f (k7 x hx).1] at this
     exact (Qir x _ (hf.items x hx) (k7 x hx).1 (l4 x hx) (by have := Q0.szs_mem _ x hx; omega)).1 N (by have := Q0.szs_mem _ x hx; omega) v.elm ⟨d1, by rw [d3, this], by omega, e2 x hx⟩) N 0 (by omega) (by omega)
    have hal : Xq N ⟨v, v.Items.map Q0.frm, v.elm, 0⟩ = some (v.inn.length : Int) := by
     have hin := Q63 v
     rw [if_pos h4] at hin
     have hil : v.inn.length = 1 + (v.Items.map fun x => X1 v.elm x x.inn).flatten.length := by rw [hin]; simp; omega
     rw [hil]; exact this
    simp only [Option.bind_some, hel, h4, hal]
    rw [if_neg (by decide), if_neg (by decide), if_pos (by decide), hfe]
    simp only [h4]
    rfl
   ·rw [if_neg h4]
    by_cases h2 : v.Kind = 22
    ·rw [if_pos (by simp [h2]), hW N (by omega), hfe]
     have hin := Q63 v
     rw [if_neg h4, if_neg (by omega)] at hin
     rw [hin]
     simp only [Option.bind_some, h2]
     rfl
    ·rw [if_neg (by simpa using h2)]
     by_cases h3 : v.Kind = 23
     ·rw [if_pos (by simp [h3]), hW N (by omega), hfe]
      have hin := Q63 v
      rw [if_neg h4, if_neg (by omega)] at hin
      rw [hin]
      simp only [Option.bind_some, h3]
      rfl
     ·rw [if_neg (by simpa using h3), if_neg (by simpa using h4), hfe, if_neg h4, if_neg (by omega)]
theorem Qd5 : ∀ (N : Nat) (v : Q0) (m : Int), Fine v → Zf v m = 0 → v.wgt < 4000000000 → v.sz < 1000000000 → 3 * v.sz + 301000 < N → Wh N v = some v.frm
 | 0, v, _, _, _, _, _, h => by omega
 | N + 1, v, m, hf, hc, hw, hz, hN => by
  have hs := v.sz_eq
  have hsl := Q0.szs_len v.Items
  obtain ⟨l1, l2, l3, l4⟩ := Q56 hw
  have := Qbp (R := Wh N) (N := N) hf hc hw hz (by omega) (fun x hx => by
   have h1 := Q0.szs_mem _ x hx
   have h2 : ∃ m', Zf x m' = 0 := by
    rcases Vo hc with ⟨k1, k2, k3⟩ | ⟨_, _, _, _, _, _, k7⟩
    ·rw [(Vx k3).2.2.2.1] at hx; cases hx
    ·exact ⟨_, (k7 x hx).1⟩
   obtain ⟨m', hm⟩ := h2
   exact Qd5 N x m' (hf.items x hx) hm (l4 x hx) (by omega) (by omega)) N 0 (by omega) (by omega)
  exact this
theorem Q6z {v : Q0} {m : Int} (h : Gf v m = 0) : Zf v m = 0 ∧ 0 ≤ m ∧ m ≤ 32 := by
 unfold Gf at h
 split at h
 ·cases h
 ·rename_i hr
  unfold Q31 at hr
  simp at hr
  exact ⟨h, hr.1, hr.2⟩
theorem Qk5 (s : List UInt8) : (Js s).map (fun n => UInt8.ofNat n.toNat) = s := by
 unfold Js
 rw [List.map_map]
 conv => rhs; rw [← List.map_id s]
 apply List.map_congr_left
 intro b _
 simp
theorem Qf9 (N : Nat) (v : Q0) (m : Int) (hf : Fine v) (hw : v.wgt < 4000000000) (hz : v.sz < 1000000000) (hN : 3 * v.sz + 302000 ≤ N) : W5 N v m = some (if Gf v m ≠ 0 then ([], Gf v m) else (v.nrm.byt, 0)) := by
 simp only [W5, Qi5 N v m hf (by omega) hz, Option.bind_some, Q9, Uk]
 by_cases h : Gf v m = 0
 ·obtain ⟨hc, _⟩ := Q6z h
  have hnf := Qap hf
  have hnc := Q7s v m hc
  have hnw : v.nrm.wgt < 4000000000 := by rw [Qde]; exact hw
  have hnz : v.nrm.sz < 1000000000 := by rw [Qcx]; exact hz
  have hl := (Q5b v.nrm).2.1
  rw [if_neg (by simp [h]), if_neg (by simp [h]), Q5a N v (by omega) hz]
  simp only [Option.bind_some]
  rw [Qd5 N v.nrm m hnf hnc hnw hnz (by rw [Qcx]; omega)]
  simp only [Option.bind_some]
  rw [(Qku v.nrm m hnf hnc hnw hnz).2 N (by rw [Qcx]; omega) [] (by simp; omega)]
  simp only [Option.bind_some, Xx, List.nil_append, Qk5]
 ·rw [if_pos h, if_pos h]
theorem Qcd (N : Nat) (v : Q0) (h : v.sz < N) (h2 : v.sz < 1000000000) : Wk N v = some (decide (v = v.nrm)) := by
 simp only [Wk, Q5a N v h h2, Option.bind_some, Qi2 N v v.nrm h h2]
end
end Go.Av
namespace Go.Av
noncomputable section
open Go.Proofs
set_option maxRecDepth 100000
abbrev NN : Nat := 800000000
theorem Qjr (v : Q0) (h : v.txt) : v.wgt ≤ 430 * v.sz := by
 induction v using Q0.ind with
 | h v ih =>
  rw [Q0.txt_eq] at h
  have hl : ∀ l : List Q0, (∀ x ∈ l, x.wgt ≤ 430 * x.sz) → Q0.wgts l ≤ 430 * Q0.szs l := by
   intro l
   induction l with
   | nil => intro _; simp [Q0.wgts]
   | cons x l ihl =>
    intro h
    have h1 := h x (.head _)
    have h2 := ihl (fun y hy => h y (.tail _ hy))
    simp only [Q0.wgts, Q0.szs]; omega
  have := hl v.Items (fun x hx => ih x hx (Qb5 _ h.2 x hx))
  rw [v.wgt_eq, v.sz_eq]; omega
theorem Qo7 : Wy NN = some true := by decide +kernel
theorem Qag {v : Q0} {m : Nat} (hf : Fine v) (hc : Zf v m = 0) (hw : v.wgt < 4000000000) : Yf (Wi m) v.byt = (v, (v.byt.length : Int), 0) := by
 have := (Qle v m hf hc hw).2 []
 rwa [List.append_nil] at this
theorem Qo3 {v w : Q0} {m k : Nat} (hf : Fine v) (hc : Zf v m = 0) (hw : v.wgt < 4000000000) (gf : Fine w) (gc : Zf w k = 0) (gw : w.wgt < 4000000000) (h : v.byt = w.byt) : v = w := by
 have mono : ∀ (u : Q0) (a b : Nat), a ≤ b → Zf u a = 0 → Zf u b = 0 := fun u a b hab h => Q9f u.sz u (Nat.le_refl _) a b (by omega) (by omega) h
 have h1 := Qag hf (mono v m (max m k) (by omega) hc) hw
 have h2 := Qag gf (mono w k (max m k) (by omega) gc) gw
 rw [h, h2] at h1
 exact (congrArg Prod.fst h1).symm
theorem Qdl (v w : Q0) (hv : OkV v) (hw : OkV w) : X0 NN v w = some true := by
 obtain ⟨b1, l1, l2⟩ := Q8y NN v (by decide)
 obtain ⟨b2, l3, l4⟩ := Q8y NN w (by decide)
 simp only [X0, Qo7, Option.bind_some, Q9, Bool.not_true, Bool.false_eq_true, if_false, l1, l3]
 cases b1 with
 | false => rfl
 | true =>
  cases b2 with
  | false => rfl
  | true =>
   obtain ⟨s1, t1⟩ := l2 rfl
   obtain ⟨s2, t2⟩ := l4 rfl
   have hf := Qks v hv t1
   have gf := Qks w hw t2
   have w1 := Qjr v t1
   have w2 := Qjr w t2
   have nz := Qcx v
   have nw := Qde v
   have gz := Qcx w
   have gw := Qde w
   have hN : NN = 800000000 := rfl
   simp only [Bool.not_true, Bool.false_eq_true, if_false, Q5a NN v (by omega) (by omega), Q5a NN v.nrm (by omega) (by omega), Qon, Option.bind_some,
    Jh NN v.nrm v.nrm (by omega) (by omega), decide_true, Qcd NN v.nrm (by omega) (by omega), Qcd NN v (by omega) (by omega), Jh NN v.nrm v (by omega) (by omega)]
   rw [if_neg (by
    by_cases he : v = v.nrm
    ·rw [decide_eq_true he, decide_eq_true he.symm]; simp
    ·rw [decide_eq_false he, decide_eq_false (fun h => he h.symm)]; simp)]
   rw [Qf9 NN v 32 hf (by omega) (by omega) (by omega), Qcf NN v 32 hf (by omega) (by omega)]
   simp only [Option.bind_some]
   by_cases hc : Gf v 32 = 0
   ·rw [if_neg (show ¬ (Gf v 32 ≠ 0) by simp [hc]), hc]
    rw [if_neg (by simp), if_neg (by simp [Uk])]
    obtain ⟨hcv, _⟩ := Q6z hc
    have hcn := Q7s v 32 hcv
    have hnf := Qap hf
    have hl := (Q5b v.nrm).2.1
    rw [show (32 : Int) = ((32 : Nat) : Int) from rfl, Qj4 32 NN v.nrm.byt (by omega) (by omega) (by omega), Qag hnf hcn (by omega)]
    simp only [Option.bind_some, Uk]
    rw [if_neg (by simp), if_neg (by simp), Jh NN v.nrm v.nrm (by omega) (by omega)]
    simp only [Option.bind_some, decide_true, Bool.not_true, Bool.false_eq_true, if_false]
    rw [Qf9 NN w _ gf (by omega) (by omega) (by omega)]
    simp only [Option.bind_some]
    by_cases gc : Gf w ((32 : Nat) : Int) = 0
    ·rw [if_neg (show ¬ (Gf w ((32 : Nat) : Int) ≠ 0) from fun h => h gc)]
     rw [if_neg (by simp), Q5a NN w (by omega) (by omega)]
     simp only [Option.bind_some]
     rw [Jh NN v.nrm w.nrm (by omega) (by omega)]
     simp only [Option.bind_some]
     obtain ⟨gcv, _⟩ := Q6z gc
     have gcn := Q7s w _ gcv
     congr 1
     by_cases he : v.nrm = w.nrm
     ·rw [he]; simp [Q14]
     ·have hne : v.nrm.byt ≠ w.nrm.byt := fun h => he (Qo3 (m := 32) (k := 32) hnf hcn (by omega) (Qap gf) gcn (by omega) h)
      simp [Q14, he, hne]
    ·rw [if_pos (show Gf w ((32 : Nat) : Int) ≠ 0 from gc), if_pos gc]
   ·rw [if_pos (show Gf v 32 ≠ 0 from hc)]
    rw [if_neg (by simp), if_pos (by rw [Uk]; exact hc)]
    rfl
end
end Go.Av
