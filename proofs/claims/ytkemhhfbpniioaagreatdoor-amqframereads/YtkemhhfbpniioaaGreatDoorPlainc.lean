/- The law. Part of a proof of a given statement: for every input the law returns true and the arguments read as before; no condition beyond the given row. -/
import Derived.Test.YtkemhhfbpniioaaGreatDoorPlainb
import Derived.Test.YtkemhhfbpniioaaGreatDoorOks
namespace Go.Av
noncomputable section
open Go.Proofs
set_option maxRecDepth 100000
theorem Q61 {α : Type} (f : Q0 → List α) (l : List Q0) (i : Nat) (h : i < l.length) : ((l.take i).map f).flatten ++ f l[i] = ((l.take (i + 1)).map f).flatten := by
 rw [List.take_succ_eq_append_getElem h, List.map_append, List.flatten_append]; simp
theorem Qcm (f : Q0 → List UInt8) (l : List Q0) (i : Nat) : ((l.take i).map f).flatten.length ≤ (l.map f).flatten.length := by
 conv => rhs; rw [← List.take_append_drop i l, List.map_append, List.flatten_append, List.length_append]
 omega
theorem Q6e {v : Q0} (hw : v.wgt < 4000000000) : v.inn.length < 1000000000000000000 ∧ (v.Items.map Q0.byt).flatten.length < 1000000000000000000 ∧ (∀ c, (v.Items.map fun x => Zt c x x.inn).flatten.length < 1000000000000000000) ∧ ∀ x ∈ v.Items, x.wgt < 4000000000 := by
 have hwe := v.wgt_eq
 have h1 := (Q4p v).1
 have s1 : ∀ (f : Q0 → List UInt8) (l : List Q0), (∀ x ∈ l, (f x).length ≤ x.wgt) → (l.map f).flatten.length ≤ Q0.wgts l := by
  intro f l
  induction l with
  | nil => intro _; simp
  | cons x l ihl =>
   intro h
   have h1 := h x (.head _)
   have h2 := ihl (fun y hy => h y (.tail _ hy))
   simp only [List.map_cons, List.flatten_cons, List.length_append, Q0.wgts]; omega
 refine ⟨by omega, ?_, fun c => ?_, fun x hx => by have := Qmb hx; omega⟩
 ·have := s1 Q0.byt v.Items (fun x _ => (Q4p x).2.1); omega
 ·have := s1 (fun x => Zt c x x.inn) v.Items (fun x _ => by have := (Q4p x).2.2 c; omega); omega
end
end Go.Av
namespace Go.Av
noncomputable section
open Go.Proofs
set_option maxRecDepth 100000
abbrev Qen := Q1
mutual
def Q0.frm : Q0 → Qen
 | .mk k n t is => ⟨⟨k, n, t, is⟩, Q0.frms is, if k = 24 then Q0.elm ⟨k, n, t, is⟩ else 0, if 22 ≤ k ∧ k ≤ 24 then ((Q0.inn ⟨k, n, t, is⟩).length : Int) else 0⟩
def Q0.frms : List Q0 → List Qen
 | [] => []
 | v :: l => v.frm :: Q0.frms l
end
theorem Qkh : ∀ l, Q0.frms l = l.map Q0.frm
 | [] => rfl
 | v :: l => by rw [Q0.frms, Qkh l]; rfl
theorem Q76 (v : Q0) : v.frm = ⟨v, v.Items.map Q0.frm, if v.Kind = 24 then v.elm else 0, if 22 ≤ v.Kind ∧ v.Kind ≤ 24 then (v.inn.length : Int) else 0⟩ := by
 cases v; rw [Q0.frm, Qkh]
theorem Qj6 (v : Q0) : v.frm.v = v := by rw [Q76]
theorem Q3j (v : Q0) : v.frm.kids = v.Items.map Q0.frm := by rw [Q76]
theorem Q05 (l : List Qen) : (Q1.rows l).length = l.length := by rw [Q1.rows_eq, Q0j]
theorem Qp9 (N : Nat) (code : Int) (v : Q0) (hc : ofB code = true) (hn : okU v.N') (h : v.Text.length < N) (hb : v.Text.length < 4611686018427387904) (hk : (ofS code).Kind ≠ 25) (hi : (ofS code).Items = true → 22 ≤ v.Kind ∧ v.Kind ≤ 24) (hl : v.inn.length < 1000000000000000000) :
  Zl N v.frm code = some (J3 code v v.inn) := by
 simp only [Zl, Qy, Qj6, Option.bind_some, Ql8 N code v hn h hb, Qa, Va, Q05, Q3j, List.length_map, J3]
 by_cases hi' : (ofS code).Items = false
 ·rw [if_pos (by simp [hi']), if_pos hi']
 ·have hi' : (ofS code).Items = true := by simpa using hi'
  rw [if_neg (show ¬ ((!(ofS code).Items) = true) by simp [hi']), if_neg hk, if_neg (show ¬ ((ofS code).Items = false) by simp [hi'])]
  by_cases hs : (ofS code).Sized = true
  ·have hw := ((Wu hc hi').1 hs).1
   rw [if_neg (show ¬ ((!(ofS code).Sized) = true) by simp [hs]), if_neg (show ¬ (ofS code).Width = 0 by omega)]
   by_cases h4 : (ofS code).Width = 4
   ·rw [if_pos h4]; simp [h4]
   ·rw [if_neg h4, Q76]
    simp only [if_pos (hi hi')]
    rw [Qu _ (by omega)]
    split
    ·rename_i h5
     rw [Q5n] at h5
     congr 1
     rw [Bool.eq_iff_iff, Q5n]; simp [h4]; omega
    ·rename_i h5
     rw [Q5n] at h5
     congr 1
     symm
     rw [decide_eq_false_iff_not]; omega
  ·have hs : (ofS code).Sized = false := by simpa using hs
   rw [if_pos (show (!(ofS code).Sized) = true by simp [hs]), if_pos (Qb8 hc hi' hs)]
   congr 1
   rw [Bool.eq_iff_iff, Va]; simp
theorem Qd0 {N : Nat} {k0 : Int → Option Int} {l : List Qen} {s54 code : Int} {P : Qen → Bool} (hb : l.length < 1000000000) (hR : ∀ f ∈ l, Zl N f code = some (P f)) : ∀ (n k : Nat) (all : Bool), k ≤ l.length → l.length - k < n →
  Yw N k0 l s54 code n all (k : Int) = if (all && (l.drop k).all P) = true then some code else k0 (IntKind.i64.wrap (s54 + 1))
 | 0, k, all, _, h => by omega
 | n + 1, k, all, hk, hn => by
  simp only [Yw, Qa, Vg, Q05, X4]
  by_cases h : k < l.length
  ·rw [if_pos (by omega), List.getElem?_eq_getElem h, List.drop_eq_getElem_cons h]
   simp only [Option.bind_some, hR _ (List.getElem_mem h)]
   rw [Qu _ (by omega)]
   cases all with
   | false =>
    have ih := Qd0 (N := N) (k0 := k0) (s54 := s54) hb hR n (k + 1) false (by omega) (by omega)
    rw [if_neg (by simp)]
    simp only [Bool.false_and] at ih ⊢
    exact_mod_cast ih
   | true =>
    have ih := Qd0 (N := N) (k0 := k0) (s54 := s54) hb hR n (k + 1) (P l[k]) (by omega) (by omega)
    rw [if_pos rfl]
    simp only [List.all_cons, Bool.true_and]
    exact_mod_cast ih
  ·rw [if_neg (by omega), List.drop_of_length_le (by omega)]
   cases all <;> simp
theorem Qib {N : Nat} {l : List Qen} {v1 : List Int} {P : Int → Qen → Bool} (hb : l.length < 1000000000) (hb1 : v1.length < 1000) (hN : l.length < N) (hR : ∀ c ∈ v1, ∀ f ∈ l, Zl N f c = some (P c f)) : ∀ (n i : Nat), i ≤ v1.length → v1.length - i < n →
  Y9 N l v1 n (i : Int) = some (((v1.drop i).find? (fun c => l.all (P c))).getD 0)
 | 0, i, _, h => by omega
 | n + 1, i, hi, hn => by
  simp only [Y9, Qa, Vg, Q0j, X4]
  by_cases h : i < v1.length
  ·rw [if_pos (by omega), List.getElem?_eq_getElem h]
   simp only [Option.bind_some]
   have := Qd0 (k0 := Y9 N l v1 n) (s54 := (i : Int)) hb (hR _ (List.getElem_mem h)) N 0 true (by omega) (by omega)
   rw [show (0 : Int) = ((0 : Nat) : Int) from rfl, this, List.drop_zero, Bool.true_and, List.drop_eq_getElem_cons h, List.find?_cons]
   cases l.all (P v1[i]) with
   | true => simp
   | false =>
    rw [if_neg (by simp), Qu _ (by omega)]
    exact_mod_cast Qib hb hb1 hN hR n (i + 1) (by omega) (by omega)
  ·rw [if_neg (by omega), List.drop_of_length_le (by omega)]; simp
theorem Qhp (N : Nat) (k : Int) (l : List Qen) (P : Int → Qen → Bool) (hb : l.length < 1000000000) (hN : l.length < N) (hN2 : 10 < N) (hR : ∀ c ∈ Xp k, ∀ f ∈ l, Zl N f c = some (P c f)) : Wa N k l = some (((Xp k).find? (fun c => l.all (P c))).getD 0) := by
 have hc := Qiw k
 simp only [Wa, Gq, Option.bind_some]
 have := Qib (N := N) (v1 := Xp k) hb (by omega) hN hR N 0 (by omega) (by omega)
 rw [List.drop_zero] at this
 exact this
theorem Qew (N : Nat) (k : Int) (l : List Q0) (hk : k ≠ 25) (hb : l.length < 1000000000) (hN : l.length < N) (hN2 : 10 < N) (hl : ∀ x ∈ l, x.Kind = k ∧ k ≤ 24 ∧ okU x.N' ∧ x.Text.length < N ∧ x.Text.length < 4611686018427387904 ∧ x.inn.length < 1000000000000000000) :
  Wa N k (l.map Q0.frm) = some (Q0s k (l.map fun x => (x, x.inn))) := by
 rw [Qhp N k (l.map Q0.frm) (fun c f => J3 c f.v f.v.inn) (by simpa using hb) (by simpa using hN) hN2 (fun c hc f hf => by
  obtain ⟨x, hx, rfl⟩ := List.mem_map.1 hf
  obtain ⟨h1, h2, h3, h4, h5, h6⟩ := hl x hx
  obtain ⟨d1, d2, d3⟩ := G3 _ _ hc
  rw [Qj6]
  exact Qp9 N c x d1 h3 h4 h5 (by omega) (fun hi => by rw [(Q6i c d1).items, d3] at hi; simp at hi; omega) h6)]
 unfold Q0s Qie
 congr 3
 funext c
 rw [List.all_map, List.all_map]
 congr 1
 funext x
 simp only [Function.comp, Qj6]
theorem Qkx : Xp 25 = [0] := by decide +kernel
theorem Qcw (N : Nat) (v : Q0) (m : Int) (hf : Fine v) (hc : Yh v m = 0) (hw : v.wgt < 4000000000) (hN : 300100 ≤ N) : Yj N v.frm = some (if v.Kind = 25 then 0 else v.cod) := by
 have ht := hf.text
 have hk := Q3i hc
 simp only [Yj, Qj6]
 by_cases h5 : v.Kind = 25
 ·rw [if_pos h5, h5, Qhp N 25 [v.frm] (fun _ _ => true) (by simp) (by simp; omega) (by omega) (fun c hc f hf => by
   rw [Qkx] at hc
   have : c = 0 := by simpa using hc
   subst this
   obtain ⟨o1, o2, o3⟩ := of0
   simp only [Zl, Qy, Option.bind_some, Qa, Va]
   rw [if_neg (by simp [o3]), if_pos o2]), Qkx]
  rfl
 ·rw [if_neg h5]
  have := Qew N v.Kind [v] h5 (by simp) (by simp; omega) (by omega) (fun x hx => by
   have : x = v := by simpa using hx
   subst this
   exact ⟨rfl, by omega, hf.num, by omega, by omega, (Q6e hw).1⟩)
  rw [show [v.frm] = [v].map Q0.frm from rfl, this]
  rfl
def U4 (s : List UInt8) : List Int := s.map fun b => (b.toNat : Int)
theorem Ul (s t : List UInt8) : U4 (s ++ t) = U4 s ++ U4 t := by simp [U4]
theorem Uw (s : List UInt8) : (U4 s).length = s.length := by simp [U4]
theorem Qk4 (N : Nat) (b : List Int) (s : List UInt8) (h : b.length + s.length < 17592186040000) : Yz N ⟨b⟩ s = some ((), ⟨b ++ U4 s⟩) := by
 simp only [Yz, Qa]
 split
 ·rename_i h1
  have : s = [] := List.length_eq_zero_iff.1 (by simpa using h1)
  subst this
  simp [U4]
 ·rw [if_pos (by rw [Nat.ble_eq]; omega)]; rfl
theorem Q18 (N : Nat) (b : List Int) (n w : Nat) (hn : n < 9223372036854775808) (hw : w ≤ 8) (hN : 10 < N) (h : b.length < 17592186030000) : Z0 N ⟨b⟩ (n : Int) (w : Int) = some ((), ⟨b ++ U4 (V8 n w)⟩) := by
 simp only [Z0]
 rw [Vv _ (by omega), Q36 N n w (by omega) hw hN]
 simp only [Option.bind_some]
 rw [Qk4 N b _ (by rw [Za]; omega)]
 rfl
theorem Qse {c : Int} (h : 0 ≤ c ∧ c < 256) : V8 c.toNat 1 = [Q35 c] := by
 rw [Q3c]
 simp only [Nat.pow_zero, Nat.div_one, V8, Q35]
 rw [Nat.mod_eq_of_lt (by omega)]
theorem Qtl {R : Q2 → Qen → Option (Unit × Q2)} {N : Nat} {f : Qen} {l : List Q0} (hk : f.kids = l.map Q0.frm) (hb : l.length < 1000000000) {b : List Int} (hbl : b.length + (l.map Q0.byt).flatten.length < 17592186030000)
  (hR : ∀ x ∈ l, ∀ b : List Int, b.length + x.byt.length < 17592186030000 → R ⟨⟨b⟩⟩ x.frm = some ((), ⟨⟨b ++ U4 x.byt⟩⟩)) : ∀ (n i : Nat), i ≤ l.length → l.length - i < n →
  Y0 R N f n (i : Int) (b ++ U4 ((l.take i).map Q0.byt).flatten) = some ((), ⟨⟨b ++ U4 (l.map Q0.byt).flatten⟩⟩) ∧
  Zz R N f n (i : Int) (b ++ U4 ((l.take i).map Q0.byt).flatten) = some ((), ⟨⟨b ++ U4 (l.map Q0.byt).flatten⟩⟩)
 | 0, i, _, h => by omega
 | n + 1, i, hi, hn => by
  simp only [Y0, Zz, Qa, Vg, Q05, hk, List.length_map, X4, List.getElem?_map]
  by_cases h : i < l.length
  ·have hft := Q61 Q0.byt l i h
   have h1 := Qcm Q0.byt l (i + 1)
   rw [← hft, List.length_append] at h1
   rw [if_pos (by omega), if_pos (by omega), List.getElem?_eq_getElem h]
   simp only [Option.map_some, Option.bind_some, hR _ (List.getElem_mem h) _ (show (b ++ U4 ((l.take i).map Q0.byt).flatten).length + l[i].byt.length < 17592186030000 by rw [List.length_append, Uw]; omega)]
   rw [Qu _ (by omega), List.append_assoc, ← Ul, hft]
   obtain ⟨ih1, ih2⟩ := Qtl (N := N) hk hb hbl hR n (i + 1) (by omega) (by omega)
   exact ⟨by exact_mod_cast ih1, by exact_mod_cast ih2⟩
  ·rw [if_neg (by omega), if_neg (by omega), List.take_of_length_le (by omega)]
   exact ⟨rfl, rfl⟩
theorem Qvq {R : Q2 → Int → Qen → Option (Unit × Q2)} {N : Nat} {f : Qen} {l : List Q0} {c : Int} (hk : f.kids = l.map Q0.frm) (hel : f.element = c) (hb : l.length < 1000000000) {b : List Int} (hbl : b.length + (l.map fun x => Zt c x x.inn).flatten.length < 17592186030000)
  (hR : ∀ x ∈ l, ∀ b : List Int, b.length + (Zt c x x.inn).length < 17592186030000 → R ⟨⟨b⟩⟩ c x.frm = some ((), ⟨⟨b ++ U4 (Zt c x x.inn)⟩⟩)) : ∀ (n i : Nat), i ≤ l.length → l.length - i < n →
  Zy R N f n (i : Int) (b ++ U4 ((l.take i).map fun x => Zt c x x.inn).flatten) = some ((), ⟨⟨b ++ U4 (l.map fun x => Zt c x x.inn).flatten⟩⟩)
 | 0, i, _, h => by omega
 | n + 1, i, hi, hn => by
  simp only [Zy, Qa, Vg, Q05, hk, hel, List.length_map, X4, List.getElem?_map]
  by_cases h : i < l.length
  ·have hft := Q61 (fun x => Zt c x x.inn) l i h
   have h1 := Qcm (fun x => Zt c x x.inn) l (i + 1)
   rw [← hft, List.length_append] at h1
   rw [if_pos (by omega), List.getElem?_eq_getElem h]
   simp only [Option.map_some, Option.bind_some, hR _ (List.getElem_mem h) _ (show (b ++ U4 ((l.take i).map fun x => Zt c x x.inn).flatten).length + (Zt c l[i] l[i].inn).length < 17592186030000 by rw [List.length_append, Uw]; omega)]
   rw [Qu _ (by omega), List.append_assoc, ← Ul, hft]
   exact_mod_cast Qvq (N := N) hk hel hb hbl hR n (i + 1) (by omega) (by omega)
  ·rw [if_neg (by omega), List.take_of_length_le (by omega)]
theorem Qmh {code : Int} (h : ofB code = true) (hi : (ofS code).Items = true) (hs : (ofS code).Sized = true) : ∃ w : Nat, (ofS code).Width = (w : Int) ∧ w ≤ 4 := by
 rcases ((Wu h hi).1 hs).1 with h | h
 ·exact ⟨1, h, by omega⟩
 ·exact ⟨4, h, by omega⟩
def WP (v : Q0) : Prop :=
  (∀ c, (ofB c = true ∧ (ofS c).Kind = v.Kind ∧ v.Kind ≠ 25 ∧ J3 c v v.inn = true) → ∀ N, 2 * v.sz + 300999 ≤ N → ∀ b : List Int, b.length + (Zt c v v.inn).length < 17592186030000 → Yq N ⟨⟨b⟩⟩ c v.frm = some ((), ⟨⟨b ++ U4 (Zt c v v.inn)⟩⟩)) ∧
  ∀ N, 2 * v.sz + 301000 ≤ N → ∀ b : List Int, b.length + v.byt.length < 17592186030000 → Z3 N ⟨⟨b⟩⟩ v.frm = some ((), ⟨⟨b ++ U4 v.byt⟩⟩)
theorem Qkm (v : Q0) : ∀ m : Int, Fine v → Yh v m = 0 → v.wgt < 4000000000 → v.sz < 1000000000 → WP v := by
 induction v using Q0.ind with
 | h v ih =>
  intro m hf hc hw hz
  have hs := v.sz_eq
  have hsl := Q0.szs_len v.Items
  obtain ⟨l1, l2, l3, l4⟩ := Q6e hw
  have htx := hf.text
  have hit : ∀ x ∈ v.Items, ∃ m', Yh x m' = 0 := fun x hx => by
   rcases U9 hc with ⟨k1, k2, k3⟩ | ⟨_, _, _, _, _, _, k7⟩
   ·rw [(Vd k3).2.2.2.1] at hx; cases hx
   ·exact ⟨_, (k7 x hx).1⟩
  have hsx : ∀ x ∈ v.Items, x.sz + 1 ≤ v.sz := fun x hx => by have := Q0.szs_mem _ x hx; omega
  have hI : ∀ x ∈ v.Items, WP x := fun x hx => by
   obtain ⟨m', hm⟩ := hit x hx
   exact ih x hx m' (hf.items x hx) hm (l4 x hx) (by have := hsx x hx; omega)
  have hP : ∀ c, (ofB c = true ∧ (ofS c).Kind = v.Kind ∧ v.Kind ≠ 25 ∧ J3 c v v.inn = true) → ∀ N, 2 * v.sz + 300999 ≤ N → ∀ b : List Int, b.length + (Zt c v v.inn).length < 17592186030000 → Yq N ⟨⟨b⟩⟩ c v.frm = some ((), ⟨⟨b ++ U4 (Zt c v v.inn)⟩⟩) := by
   rintro c ⟨c1, c2, c3, c4⟩ N hN b hb
   obtain ⟨N, rfl⟩ : ∃ N', N = N' + 1 := ⟨N - 1, by omega⟩
   show Y3 (Z3 N) (Yq N) N ⟨⟨b⟩⟩ c v.frm = _
   simp only [Y3, Qy, Qj6, Option.bind_some, Qa, Va, Q05, Q3j, List.length_map]
   have hd : Zt c v v.inn = if (ofS c).Items = false then (Qpd c v).1 else if (ofS c).Sized = false then [] else V8 (v.inn.length + (ofS c).Width.toNat) (ofS c).Width.toNat ++ (V8 v.Items.length (ofS c).Width.toNat ++ v.inn) := rfl
   by_cases hi : (ofS c).Items = false
   ·rw [if_pos (by simp [hi]), Qsf N c v hf.num (by omega) (by omega) (by omega)]
    rw [if_pos hi] at hd
    rw [hd] at hb ⊢
    simp only [Option.bind_some]
    rw [Qk4 N b _ (by omega)]
    rfl
   ·have hi : (ofS c).Items = true := by simpa using hi
    rw [if_neg (by simp [hi])]
    rw [if_neg (by simp [hi])] at hd
    have hkk : 22 ≤ v.Kind ∧ v.Kind ≤ 24 := by
     have h1 := hi
     rw [(Q6i c c1).items, c2] at h1
     have := Q3i hc
     simp at h1; omega
    by_cases hs' : (ofS c).Sized = true
    ·rw [if_pos hs']
     rw [if_neg (by simp [hs'])] at hd
     obtain ⟨w, hw1, hw2⟩ := Qmh c1 hi hs'
     rw [hw1, Int.toNat_natCast] at hd
     rw [hd] at hb ⊢
     simp only [List.length_append, Za] at hb
     have hin : v.frm.inner = (v.inn.length : Int) := by rw [Q76]; simp only [if_pos hkk]
     rw [hw1, hin, Qu _ (by omega), show ((w : Int) + (v.inn.length : Int)) = ((v.inn.length + w : Nat) : Int) by push_cast; omega,
      Q18 N b _ w (by omega) (by omega) (by omega) (by omega)]
     simp only [Option.bind_some]
     rw [Q18 N _ _ w (by omega) (by omega) (by omega) (by rw [List.length_append, Uw, Za]; omega)]
     simp only [Option.bind_some, c2]
     by_cases h4 : v.Kind = 24
     ·rw [if_pos h4]
      obtain ⟨e1, e2⟩ := Ql6 hf hc h4
      obtain ⟨d1, d2, d3⟩ := G3 _ _ e1
      have hr := Q5r d1
      have hel : v.frm.element = v.elm := by rw [Q76]; simp only [if_pos h4]
      have hin2 := Q41 v
      rw [if_pos h4] at hin2
      have hl2 := congrArg List.length hin2
      simp only [List.length_cons] at hl2
      rw [hel, show v.elm = ((v.elm.toNat : Nat) : Int) by omega, show (1 : Int) = ((1 : Nat) : Int) from rfl,
       Q18 N _ _ 1 (by omega) (by omega) (by omega) (by simp only [List.length_append, Uw, Za]; omega)]
      simp only [Option.bind_some]
      rw [Qse hr]
      rcases U9 hc with ⟨k1, k2, k3⟩ | ⟨k1, k2, k3, k4, k5, k6, k7⟩
      ·omega
      have hnn := (Gm k4).2.1 h4
      have := Qvq (R := Yq N) (N := N) (f := v.frm) (l := v.Items) (c := v.elm) (Q3j v) hel (by omega) (b := b ++ U4 (V8 (v.inn.length + w) w) ++ U4 (V8 v.Items.length w) ++ U4 [Q35 v.elm])
       (by simp only [List.length_append, Uw, Za, List.length_cons, List.length_nil]; omega)
       (fun x hx b' hb' => (hI x hx).1 v.elm ⟨d1, by
        have := (k7 x hx).2 h4
        rw [Q15 (k7 x hx).1] at this
        rw [d3, this], by
        have := (k7 x hx).2 h4
        rw [Q15 (k7 x hx).1] at this
        omega, e2 x hx⟩ N (by have := hsx x hx; omega) b' hb') N 0 (by omega) (by omega)
      simp only [List.take_zero, List.map_nil, List.flatten_nil, U4, List.append_nil] at this
      have e : (b ++ U4 (V8 (v.inn.length + w) w) ++ U4 (V8 v.Items.length w) ++ U4 [Q35 v.elm] ++ U4 ((v.Items.map fun x => Zt v.elm x x.inn).flatten)) = b ++ U4 (V8 (v.inn.length + w) w ++ (V8 v.Items.length w ++ v.inn)) := by
       have hi3 : U4 v.inn = U4 [Q35 v.elm] ++ U4 ((v.Items.map fun x => Zt v.elm x x.inn).flatten) := by rw [← Ul]; exact congrArg U4 hin2
       rw [Ul, Ul, hi3]
       simp only [List.append_assoc]
      rw [← e]
      exact this
     ·rw [if_neg h4]
      have hin2 := Q41 v
      rw [if_neg h4, if_neg c3] at hin2
      have hl2 := congrArg List.length hin2
      have := (Qtl (R := Z3 N) (N := N) (f := v.frm) (l := v.Items) (Q3j v) (by omega) (b := b ++ U4 (V8 (v.inn.length + w) w) ++ U4 (V8 v.Items.length w))
       (by simp only [List.length_append, Uw, Za]; omega)
       (fun x hx b' hb' => (hI x hx).2 N (by have := hsx x hx; omega) b' hb') N 0 (by omega) (by omega)).1
      simp only [List.take_zero, List.map_nil, List.flatten_nil, U4, List.append_nil] at this
      have e : (b ++ U4 (V8 (v.inn.length + w) w) ++ U4 (V8 v.Items.length w) ++ U4 (v.Items.map Q0.byt).flatten) = b ++ U4 (V8 (v.inn.length + w) w ++ (V8 v.Items.length w ++ v.inn)) := by
       rw [Ul, Ul, ← hin2]
       simp only [List.append_assoc]
      rw [← e]
      exact this
    ·have hs' : (ofS c).Sized = false := by simpa using hs'
     rw [if_neg (by simp [hs'])]
     rw [if_pos hs'] at hd
     have hk := (Wu c1 hi).2 hs'
     unfold J3 at c4
     rw [if_neg (by simp [hi]), if_pos (Qb8 c1 hi hs')] at c4
     have hl0 : v.Items = [] := List.length_eq_zero_iff.1 (by simpa using c4)
     rw [hd, if_neg (by omega)]
     have := (Qtl (R := Z3 N) (N := N) (f := v.frm) (l := v.Items) (Q3j v) (by omega) (b := b) (by rw [hl0]; simp; omega) (fun x hx => by rw [hl0] at hx; cases hx) N 0 (by omega) (by omega)).2
     rw [hl0] at this
     simpa [U4] using this
  refine ⟨hP, fun N hN b hb => ?_⟩
  obtain ⟨N, rfl⟩ : ∃ N', N = N' + 1 := ⟨N - 1, by omega⟩
  show Xa (Z3 N) (Yq N) N ⟨⟨b⟩⟩ v.frm = _
  simp only [Xa, Qcw N v m hf hc hw (by omega), Option.bind_some]
  have hbe := Qf3 v
  have hbl := congrArg List.length hbe
  by_cases h5 : v.Kind = 25
  ·rw [if_pos h5] at hbe hbl ⊢
   simp only [List.length_cons] at hbl
   have hn := Q18 N b 0 1 (by omega) (by omega) (by omega) (by omega)
   rw [show ((0 : Nat) : Int) = 0 from rfl, show ((1 : Nat) : Int) = 1 from rfl] at hn
   rw [hn]
   simp only [Option.bind_some]
   obtain ⟨N, rfl⟩ : ∃ N', N = N' + 1 := ⟨N - 1, by omega⟩
   show ((Y3 (Z3 N) (Yq N) N ⟨⟨b ++ U4 (V8 0 1)⟩⟩ 0 v.frm).bind _) = _
   obtain ⟨o1, o2, o3⟩ := of0
   have o4 : (ofS 0).Sized = false := by decide +kernel
   simp only [Y3, Qy, Option.bind_some, Qa, Va]
   rw [if_neg (by simp [o3]), if_neg (by simp [o4]), if_neg (by omega)]
   have := (Qtl (R := Z3 N) (N := N) (f := v.frm) (l := v.Items) (Q3j v) (by omega) (b := b ++ U4 (V8 0 1))
    (by simp only [List.length_append, Uw, Za]; omega)
    (fun x hx b' hb' => (hI x hx).2 N (by have := hsx x hx; omega) b' hb') N 0 (by omega) (by omega)).2
   simp only [List.take_zero, List.map_nil, List.flatten_nil, U4, List.append_nil] at this
   have h0 : (((0 : Nat) : Int)) = 0 := rfl
   rw [h0] at this
   simp only [U4] at *
   rw [this]
   simp only [Option.bind_some]
   rw [hbe]
   simp [V8]
  ·rw [if_neg h5] at hbe hbl ⊢
   simp only [List.length_cons] at hbl
   obtain ⟨g1, g2⟩ := Qex hf hc h5
   obtain ⟨d1, d2, d3⟩ := G3 _ _ g1
   have hr := Q5r d1
   have hn := Q18 N b v.cod.toNat 1 (by omega) (by omega) (by omega) (by omega)
   rw [Qse hr, show ((v.cod.toNat : Nat) : Int) = v.cod by omega, show ((1 : Nat) : Int) = 1 from rfl] at hn
   rw [hn]
   simp only [Option.bind_some]
   rw [hP v.cod ⟨d1, d3, h5, g2⟩ N (by omega) _ (by rw [List.length_append, Uw]; simp; omega)]
   simp only [Option.bind_some]
   rw [hbe]
   simp [U4]
end
end Go.Av
namespace Go.Av
noncomputable section
open Go.Proofs
set_option maxRecDepth 100000
theorem Q8c (v : Q0) : v.byt.length = 1 + (if v.Kind = 25 then (v.Items.map Q0.byt).flatten.length else (Zt v.cod v v.inn).length) := by
 rw [Qf3]
 split <;> simp <;> omega
theorem Qhs {R : Qen → Int → Option Int} {N : Nat} {f : Qen} {l : List Q0} (hk : f.kids = l.map Q0.frm) (hb : l.length < 1000000000) (hl : (l.map Q0.byt).flatten.length < 1000000000000000000) (hN : 300100 ≤ N)
  (hv : ∀ x ∈ l, (∃ m, Yh x m = 0) ∧ Fine x ∧ x.wgt < 4000000000) (hR : ∀ x ∈ l, R x.frm (if x.Kind = 25 then 0 else x.cod) = some ((if x.Kind = 25 then (x.Items.map Q0.byt).flatten.length else (Zt x.cod x x.inn).length : Nat) : Int)) : ∀ (n i : Nat), i ≤ l.length → l.length - i < n →
  Y5 R N f n (((l.take i).map Q0.byt).flatten.length : Nat) (i : Int) = some (((l.map Q0.byt).flatten.length : Nat) : Int)
 | 0, i, _, h => by omega
 | n + 1, i, hi, hn => by
  simp only [Y5, Qa, Vg, Q05, hk, List.length_map, X4, List.getElem?_map]
  by_cases h : i < l.length
  ·have hft := Q61 Q0.byt l i h
   have h1 := Qcm Q0.byt l (i + 1)
   rw [← hft, List.length_append] at h1
   obtain ⟨⟨m, h2⟩, h3, h4⟩ := hv _ (List.getElem_mem h)
   rw [if_pos (by omega), List.getElem?_eq_getElem h]
   simp only [Option.map_some, Option.bind_some, Qcw N l[i] m h3 h2 h4 hN, hR _ (List.getElem_mem h)]
   have hbl := Q8c l[i]
   have e : (((l.take i).map Q0.byt).flatten.length : Int) + IntKind.i64.wrap (1 + ((if l[i].Kind = 25 then (l[i].Items.map Q0.byt).flatten.length else (Zt l[i].cod l[i] l[i].inn).length : Nat) : Int)) = ((((l.take (i + 1)).map Q0.byt).flatten.length : Nat) : Int) := by
    rw [← hft, List.length_append, hbl]
    rw [Qu _ (by omega)]
    push_cast; rfl
   rw [e, Qu _ (by rw [← hft, List.length_append]; omega), Qu _ (by omega)]
   exact_mod_cast Qhs (N := N) hk hb hl hN hv hR n (i + 1) (by omega) (by omega)
  ·rw [if_neg (by omega), List.take_of_length_le (by omega)]
def FP (v : Q0) : Prop :=
 (∀ N, 2 * v.sz + 301000 ≤ N → ∀ c, (ofB c = true ∧ (ofS c).Kind = v.Kind ∧ v.Kind ≠ 25 ∧ J3 c v v.inn = true) → Zn N v.frm c = some ((Zt c v v.inn).length : Int)) ∧
 (∀ N, 2 * v.sz + 301000 ≤ N → v.Kind = 25 → Zn N v.frm 0 = some ((v.Items.map Q0.byt).flatten.length : Int)) ∧
 ∀ N, 2 * v.sz + 300999 ≤ N → ∀ e i, Zd N ⟨v, v.Items.map Q0.frm, e, i⟩ = some ((v.Items.map Q0.byt).flatten.length : Int)
theorem Qfo (v : Q0) : ∀ m : Int, Fine v → Yh v m = 0 → v.wgt < 4000000000 → v.sz < 1000000000 → FP v := by
 induction v using Q0.ind with
 | h v ih =>
  intro m hf hc hw hz
  have hs := v.sz_eq
  have hsl := Q0.szs_len v.Items
  obtain ⟨l1, l2, l3, l4⟩ := Q6e hw
  have htx := hf.text
  have hit : ∀ x ∈ v.Items, ∃ m', Yh x m' = 0 := fun x hx => by
   rcases U9 hc with ⟨k1, k2, k3⟩ | ⟨_, _, _, _, _, _, k7⟩
   ·rw [(Vd k3).2.2.2.1] at hx; cases hx
   ·exact ⟨_, (k7 x hx).1⟩
  have hsx : ∀ x ∈ v.Items, x.sz + 1 ≤ v.sz := fun x hx => by have := Q0.szs_mem _ x hx; omega
  have hI : ∀ x ∈ v.Items, FP x := fun x hx => by
   obtain ⟨m', hm⟩ := hit x hx
   exact ih x hx m' (hf.items x hx) hm (l4 x hx) (by have := hsx x hx; omega)
  have hW : ∀ N, 2 * v.sz + 300999 ≤ N → ∀ e i, Zd N ⟨v, v.Items.map Q0.frm, e, i⟩ = some ((v.Items.map Q0.byt).flatten.length : Int) := by
   intro N hN e i
   obtain ⟨N, rfl⟩ : ∃ N', N = N' + 1 := ⟨N - 1, by omega⟩
   have := Qhs (R := Zn N) (N := N) (f := ⟨v, v.Items.map Q0.frm, e, i⟩) (l := v.Items) rfl (by omega) l2 (by omega) (fun x hx => ⟨hit x hx, hf.items x hx, l4 x hx⟩) (fun x hx => by
    obtain ⟨p1, p2, _⟩ := hI x hx
    obtain ⟨m', hm⟩ := hit x hx
    have := hsx x hx
    by_cases h5 : x.Kind = 25
    ·rw [if_pos h5, if_pos h5]; exact p2 N (by omega) h5
    ·rw [if_neg h5, if_neg h5]
     obtain ⟨g1, g2⟩ := Qex (hf.items x hx) hm h5
     obtain ⟨d1, d2, d3⟩ := G3 _ _ g1
     exact p1 N (by omega) x.cod ⟨d1, d3, h5, g2⟩) N 0 (by omega) (by omega)
   exact this
  refine ⟨fun N hN c hcc => ?_, fun N hN h5 => ?_, hW⟩
  ·obtain ⟨c1, c2, c3, c4⟩ := hcc
   obtain ⟨N, rfl⟩ : ∃ N', N = N' + 1 := ⟨N - 1, by omega⟩
   show Yl (Zn N) (Zd N) N v.frm c = _
   simp only [Yl, Qy, Option.bind_some, Qa, Va, Qj6]
   rw [if_neg (by omega)]
   have hww := Q4z c
   by_cases hi : (ofS c).Items = true
   ·rw [if_pos hi]
    have hkk : 22 ≤ v.Kind ∧ v.Kind ≤ 24 := by
     have h1 := hi
     rw [(Q6i c c1).items, c2] at h1
     have := Q3i hc
     simp at h1; omega
    by_cases hs' : (ofS c).Sized = true
    ·rw [if_pos hs']
     have hin : v.frm.inner = (v.inn.length : Int) := by rw [Q76]; simp only [if_pos hkk]
     have hd : (Zt c v v.inn).length = (ofS c).Width.toNat + ((ofS c).Width.toNat + v.inn.length) := by
      unfold Zt
      rw [if_neg (by simp [hi]), if_neg (by simp [hs'])]
      simp [Za]
     rw [hin, hd, Qu (2 * (ofS c).Width) (by omega), Qu _ (by omega)]
     congr 1
     omega
    ·have hs' : (ofS c).Sized = false := by simpa using hs'
     rw [if_neg (by simp [hs']), Qb8 c1 hi hs']
     have hd : Zt c v v.inn = [] := by
      unfold Zt
      rw [if_neg (by simp [hi]), if_pos hs']
     rw [hd]; rfl
   ·have hi : (ofS c).Items = false := by simpa using hi
    rw [if_neg (by simp [hi])]
    have hf' : Jb c v = true := by unfold J3 at c4; rw [if_pos hi] at c4; exact c4
    have hd : Zt c v v.inn = J1 (ofS c) v := by unfold Zt; rw [if_pos hi, Qkl hf']
    have hl := Q0r hf'
    rw [hd, hl]
    by_cases hs' : (ofS c).Sized = true
    ·rw [if_pos hs', if_pos hs', Qu _ (by omega)]
     congr 1; push_cast; omega
    ·rw [if_neg hs', if_neg hs']
     congr 1; push_cast; omega
  ·obtain ⟨N, rfl⟩ : ∃ N', N = N' + 1 := ⟨N - 1, by omega⟩
   show Yl (Zn N) (Zd N) N v.frm 0 = _
   obtain ⟨o1, o2, o3⟩ := of0
   simp only [Yl, Qy, Option.bind_some, Qa, Va]
   rw [if_pos o2]
   rw [Q76, hW N (by omega)]
   rfl
theorem Qi7 {N : Nat} {f : Qen} {l : List Q0} {c : Int} (hk : f.kids = l.map Q0.frm) (he : f.element = c) (hb : l.length < 1000000000) (hl : (l.map fun x => Zt c x x.inn).flatten.length < 1000000000000000000)
  (hR : ∀ x ∈ l, Zn N x.frm c = some ((Zt c x x.inn).length : Int)) : ∀ (n i : Nat), i ≤ l.length → l.length - i < n →
  Y6 N f n ((1 + ((l.take i).map fun x => Zt c x x.inn).flatten.length : Nat) : Int) (i : Int) = some ((1 + (l.map fun x => Zt c x x.inn).flatten.length : Nat) : Int)
 | 0, i, _, h => by omega
 | n + 1, i, hi, hn => by
  simp only [Y6, Qa, Vg, Q05, hk, he, List.length_map, X4, List.getElem?_map]
  by_cases h : i < l.length
  ·have hft := Q61 (fun x => Zt c x x.inn) l i h
   have h1 := Qcm (fun x => Zt c x x.inn) l (i + 1)
   rw [← hft, List.length_append] at h1
   rw [if_pos (by omega), List.getElem?_eq_getElem h]
   simp only [Option.map_some, Option.bind_some, hR _ (List.getElem_mem h)]
   have e : ((1 + ((l.take i).map fun x => Zt c x x.inn).flatten.length : Nat) : Int) + ((Zt c l[i] l[i].inn).length : Int) = ((1 + ((l.take (i + 1)).map fun x => Zt c x x.inn).flatten.length : Nat) : Int) := by
    rw [← hft, List.length_append]
    push_cast; omega
   rw [e, Qu _ (by rw [← hft, List.length_append]; omega), Qu _ (by omega)]
   exact_mod_cast Qi7 (N := N) hk he hb hl hR n (i + 1) (by omega) (by omega)
  ·rw [if_neg (by omega), List.take_of_length_le (by omega)]
theorem Qdz {R : Q0 → Option Qen} {N : Nat} {v : Q0} {m : Int} (hf : Fine v) (hc : Yh v m = 0) (hw : v.wgt < 4000000000) (hz : v.sz < 1000000000) (hN : 2 * v.sz + 301000 ≤ N) (hR : ∀ x ∈ v.Items, R x = some x.frm) : ∀ (n i : Nat), i ≤ v.Items.length → v.Items.length - i < n →
  Xc R N v n (i : Int) ((v.Items.take i).map Q0.frm) = some v.frm
 | 0, i, _, h => by omega
 | n + 1, i, hi, hn => by
  have hs := v.sz_eq
  have hsl := Q0.szs_len v.Items
  simp only [Xc, Qa, Vg, Va, Zh, X4]
  by_cases h : i < v.Items.length
  ·rw [if_pos (by omega), List.getElem?_eq_getElem h]
   simp only [Option.bind_some, hR _ (List.getElem_mem h)]
   rw [if_pos (by rw [Nat.ble_eq, List.length_map, List.length_take]; omega), Qu _ (by omega)]
   have e : (v.Items.take i).map Q0.frm ++ [v.Items[i].frm] = (v.Items.take (i + 1)).map Q0.frm := by
    rw [List.take_succ_eq_append_getElem h, List.map_append]; rfl
   rw [e]
   exact_mod_cast Qdz hf hc hw hz hN hR n (i + 1) (by omega) (by omega)
  ·rw [if_neg (by omega), List.take_of_length_le (by omega)]
   obtain ⟨l1, l2, l3, l4⟩ := Q6e hw
   obtain ⟨_, _, hW⟩ := Qfo v m hf hc hw hz
   have hfe := Q76 v
   by_cases h4 : v.Kind = 24
   ·rcases U9 hc with ⟨k1, k2, k3⟩ | ⟨k1, k2, k3, k4, k5, k6, k7⟩
    ·omega
    have hnn := (Gm k4).2.1 h4
    rw [if_pos h4, Qu _ (by omega), Qew N v.N' v.Items (by omega) (by omega) (by omega) (by omega) (fun x hx => by
     have f1 := hf.items x hx
     have f2 := f1.text
     have f3 := (Q6e (l4 x hx)).1
     have := (k7 x hx).2 h4
     rw [Q15 (k7 x hx).1] at this
     exact ⟨this, by omega, f1.num, by omega, by omega, f3⟩)]
    have hel : Q0s v.N' (v.Items.map fun x => (x, x.inn)) = v.elm := rfl
    obtain ⟨e1, e2⟩ := Ql6 hf hc h4
    obtain ⟨d1, d2, d3⟩ := G3 _ _ e1
    have := Qi7 (N := N) (f := ⟨v, v.Items.map Q0.frm, v.elm, 0⟩) (l := v.Items) (c := v.elm) rfl rfl (by omega) (l3 v.elm) (fun x hx => by
     have := (k7 x hx).2 h4
     rw [Q15 (k7 x hx).1] at this
     exact (Qfo x _ (hf.items x hx) (k7 x hx).1 (l4 x hx) (by have := Q0.szs_mem _ x hx; omega)).1 N (by have := Q0.szs_mem _ x hx; omega) v.elm ⟨d1, by rw [d3, this], by omega, e2 x hx⟩) N 0 (by omega) (by omega)
    have hal : Xy N ⟨v, v.Items.map Q0.frm, v.elm, 0⟩ = some (v.inn.length : Int) := by
     have hin := Q41 v
     rw [if_pos h4] at hin
     have hil : v.inn.length = 1 + (v.Items.map fun x => Zt v.elm x x.inn).flatten.length := by rw [hin]; simp; omega
     rw [hil]; exact this
    simp only [Option.bind_some, hel, h4, hal]
    rw [if_neg (by decide), if_neg (by decide), if_pos (by decide), hfe]
    simp only [h4]
    rfl
   ·rw [if_neg h4]
    by_cases h2 : v.Kind = 22
    ·rw [if_pos (by simp [h2]), hW N (by omega), hfe]
     have hin := Q41 v
     rw [if_neg h4, if_neg (by omega)] at hin
     rw [hin]
     simp only [Option.bind_some, h2]
     rfl
    ·rw [if_neg (by simpa using h2)]
     by_cases h3 : v.Kind = 23
     ·rw [if_pos (by simp [h3]), hW N (by omega), hfe]
      have hin := Q41 v
      rw [if_neg h4, if_neg (by omega)] at hin
      rw [hin]
      simp only [Option.bind_some, h3]
      rfl
     ·rw [if_neg (by simpa using h3), if_neg (by simpa using h4), hfe, if_neg h4, if_neg (by omega)]
theorem Q9i : ∀ (N : Nat) (v : Q0) (m : Int), Fine v → Yh v m = 0 → v.wgt < 4000000000 → v.sz < 1000000000 → 3 * v.sz + 301000 < N → Xk N v = some v.frm
 | 0, v, _, _, _, _, _, h => by omega
 | N + 1, v, m, hf, hc, hw, hz, hN => by
  have hs := v.sz_eq
  have hsl := Q0.szs_len v.Items
  obtain ⟨l1, l2, l3, l4⟩ := Q6e hw
  have := Qdz (R := Xk N) (N := N) hf hc hw hz (by omega) (fun x hx => by
   have h1 := Q0.szs_mem _ x hx
   have h2 : ∃ m', Yh x m' = 0 := by
    rcases U9 hc with ⟨k1, k2, k3⟩ | ⟨_, _, _, _, _, _, k7⟩
    ·rw [(Vd k3).2.2.2.1] at hx; cases hx
    ·exact ⟨_, (k7 x hx).1⟩
   obtain ⟨m', hm⟩ := h2
   exact Q9i N x m' (hf.items x hx) hm (l4 x hx) (by omega) (by omega)) N 0 (by omega) (by omega)
  exact this
theorem Q9s {v : Q0} {m : Int} (h : Vl v m = 0) : Yh v m = 0 ∧ 0 ≤ m ∧ m ≤ 32 := by
 unfold Vl at h
 split at h
 ·cases h
 ·rename_i hr
  unfold Q7d at hr
  simp at hr
  exact ⟨h, hr.1, hr.2⟩
theorem Qdy (s : List UInt8) : (U4 s).map (fun n => UInt8.ofNat n.toNat) = s := by
 unfold U4
 rw [List.map_map]
 conv => rhs; rw [← List.map_id s]
 apply List.map_congr_left
 intro b _
 simp
theorem Qo7 (N : Nat) (v : Q0) (m : Int) (hf : Fine v) (hw : v.wgt < 4000000000) (hz : v.sz < 1000000000) (hN : 3 * v.sz + 302000 ≤ N) : Vy N v m = some (if Vl v m ≠ 0 then ([], Vl v m) else (v.nrm.byt, 0)) := by
 simp only [Vy, Q8e N v m hf (by omega) hz, Option.bind_some, Qa, Uk]
 by_cases h : Vl v m = 0
 ·obtain ⟨hc, _⟩ := Q9s h
  have hnf := Q7x hf
  have hnc := Q4x v m hc
  have hnw : v.nrm.wgt < 4000000000 := by rw [Qby]; exact hw
  have hnz : v.nrm.sz < 1000000000 := by rw [Q42]; exact hz
  have hl := (Q4p v.nrm).2.1
  rw [if_neg (by simp [h]), if_neg (by simp [h]), Qbs N v (by omega) hz]
  simp only [Option.bind_some]
  rw [Q9i N v.nrm m hnf hnc hnw hnz (by rw [Q42]; omega)]
  simp only [Option.bind_some]
  rw [(Qkm v.nrm m hnf hnc hnw hnz).2 N (by rw [Q42]; omega) [] (by simp; omega)]
  simp only [Option.bind_some, W0, List.nil_append, Qdy]
 ·rw [if_pos h, if_pos h]
theorem Qr2 (N : Nat) (v : Q0) (m : Int) (hf : Fine v) (hw : v.wgt < 4000000000) (hz : v.sz < 1000000000) (hN : 3 * v.sz + 302000 ≤ N) : U7 N v m = some (if Vl v m ≠ 0 then (0, Vl v m) else ((v.nrm.byt.length : Int), 0)) := by
 simp only [U7, Q8e N v m hf (by omega) hz, Option.bind_some, Qa, Uk]
 by_cases h : Vl v m = 0
 ·obtain ⟨hc, _⟩ := Q9s h
  have hnf := Q7x hf
  have hnc := Q4x v m hc
  have hnw : v.nrm.wgt < 4000000000 := by rw [Qby]; exact hw
  have hnz : v.nrm.sz < 1000000000 := by rw [Q42]; exact hz
  have hl := (Q4p v.nrm).2.1
  have hbl := Q8c v.nrm
  rw [if_neg (by simp [h]), if_neg (by simp [h]), Qbs N v (by omega) hz]
  simp only [Option.bind_some]
  rw [Q9i N v.nrm m hnf hnc hnw hnz (by rw [Q42]; omega)]
  simp only [Option.bind_some]
  rw [Qcw N v.nrm m hnf hnc hnw (by omega)]
  simp only [Option.bind_some]
  obtain ⟨p1, p2, _⟩ := Qfo v.nrm m hnf hnc hnw hnz
  by_cases h5 : v.nrm.Kind = 25
  ·rw [if_pos h5] at hbl ⊢
   rw [p2 N (by rw [Q42]; omega) h5]
   simp only [Option.bind_some]
   rw [Qu _ (by omega), hbl]; push_cast; rfl
  ·rw [if_neg h5] at hbl ⊢
   obtain ⟨g1, g2⟩ := Qex hnf hnc h5
   obtain ⟨d1, d2, d3⟩ := G3 _ _ g1
   rw [p1 N (by rw [Q42]; omega) _ ⟨d1, d3, h5, g2⟩]
   simp only [Option.bind_some]
   rw [Qu _ (by omega), hbl]; push_cast; rfl
 ·rw [if_pos h, if_pos h]
end
end Go.Av
namespace Go.Av
noncomputable section
open Go.Proofs
set_option maxRecDepth 100000
theorem Qq3 (v : Q0) (h : v.txt) : v.wgt ≤ 430 * v.sz := by
 induction v using Q0.ind with
 | h v ih =>
  rw [Q0.txt_eq] at h
  have hl : ∀ l : List Q0, (∀ x ∈ l, x.wgt ≤ 430 * x.sz) → Q0.wgts l ≤ 430 * Q0.szs l := by
   intro l
   induction l with
   | nil => intro _; simp [Q0.wgts]
   | cons x l ihl =>
    intro h
    have h1 := h x (.head _)
    have h2 := ihl (fun y hy => h y (.tail _ hy))
    simp only [Q0.wgts, Q0.szs]; omega
  have := hl v.Items (fun x hx => ih x hx (Qgu _ h.2 x hx))
  rw [v.wgt_eq, v.sz_eq]; omega
end
end Go.Av
namespace Go.Av
noncomputable section
open Go.Proofs
set_option maxRecDepth 100000
def Quo (k : Nat) : Bool := !((ofB (U6 k))) || (Xp (Xd k).2.1).contains (U6 k)
theorem Qnz : ((List.range 40).all Quo) = true := by decide +kernel
theorem Qfd {c : Int} (h : ofB c = true) : c ∈ Xp (ofS c).Kind := by
 have h1 : bsI c < 40 ∧ U6 (bsI c) = c := by simpa [ofB] using h
 have hw := List.all_eq_true.1 Qnz (bsI c) (by simpa using h1.1)
 unfold Quo at hw
 rw [h1.2, h] at hw
 have e : ofT c = Xd (bsI c) := by unfold ofT; rw [if_pos h]
 rw [← e] at hw
 have : c ∈ Xp (ofT c).2.1 := by simpa using hw
 exact this
def Qv0 (k : Nat) : Bool := !(decide ((Xd k).2.1 = 11 ∨ (Xd k).2.1 = 12)) || (decide ((Xd k).2.2.1 ≠ 0 ∧ (Xd k).2.2.1 ≠ 1 ∧ (Xd k).1 ≠ 65) && !(Xd k).2.2.2.1)
theorem Qp5 : ((List.range 40).all Qv0) = true := by decide +kernel
theorem Qr9 {c : Int} (h : ofB c = true) (hk : (ofS c).Kind = 11 ∨ (ofS c).Kind = 12) : (ofS c).Width ≠ 0 ∧ (ofS c).Width ≠ 1 ∧ (ofS c).Code ≠ 65 ∧ (ofS c).Sized = false := by
 have := Qfr (P := fun t => (t.2.1 = 11 ∨ t.2.1 = 12) → (t.2.2.1 ≠ 0 ∧ t.2.2.1 ≠ 1 ∧ t.1 ≠ 65) ∧ t.2.2.2.1 = false) Qp5 (fun k hk h1 => by simpa [Qv0, h1] using hk) h hk
 exact ⟨this.1.1, this.1.2.1, this.1.2.2, this.2⟩
theorem Qbg {c : Int} {v : Q0} {b : List UInt8} (hi : (ofS c).Items = false) (h : J3 c v b = true) : Jb c v = true := by
 unfold J3 at h
 rwa [if_pos hi] at h
theorem Q6o {c : Int} {v : Q0} {b : List UInt8} (hi : (ofS c).Items = false) (h : Jb c v = true) : Zt c v b = J1 (ofS c) v := by
 unfold Zt
 rw [if_pos hi, Qkl h]
theorem Q43 {c : Int} {v : Q0} {b : List UInt8} (hi : (ofS c).Items = true) (hs : (ofS c).Sized = true) : (Zt c v b).length = 2 * (ofS c).Width.toNat + b.length := by
 unfold Zt
 rw [if_neg (by simp [hi]), if_neg (by simp [hs])]
 simp [Za]; omega
theorem Qae {c d : Int} {v : Q0} {b : List UInt8} (hc : ofB c = true) (hd : ofB d = true) (kc : (ofS c).Kind = v.Kind) (kd : (ofS d).Kind = v.Kind) (sc : J3 c v b = true) (sd : J3 d v b = true) (hw : (ofS c).Width ≤ (ofS d).Width) : (Zt c v b).length ≤ (Zt d v b).length := by
 have wc := Q6i c hc
 have wd := Q6i d hd
 cases hi : (ofS c).Items with
 | false =>
  have hj : (ofS d).Items = false := by rw [wd.items, kd, ← kc, ← wc.items]; exact hi
  have fc := Qbg hi sc
  have fd := Qbg hj sd
  rw [Q6o hi fc, Q6o hj fd]
  exact longer fc fd hw
 | true =>
  have hj : (ofS d).Items = true := by rw [wd.items, kd, ← kc, ← wc.items]; exact hi
  cases hs : (ofS c).Sized with
  | true =>
   cases ht : (ofS d).Sized with
   | true =>
    rw [Q43 hi hs, Q43 hj ht]
    have := Q4z c
    have := Q4z d
    omega
   | false =>
    have := Qb8 hd hj ht
    have := ((Wu hc hi).1 hs).1
    omega
  | false =>
   unfold Zt
   rw [if_neg (by simp [hi]), if_pos hs]
   simp
theorem Qny {v : Q0} (hi : v.Items = []) (hn : nnS v = false) : v.nrm = v := by
 rw [Q66, Q8w hn, hi]
 cases v; simp at hi; subst hi; rfl
theorem Qoq {c : Int} {v : Q0} (h : Jb c v = true) : Jb c v.nrm = true := by
 obtain ⟨f1, f2, f3, f4⟩ := Ju h
 obtain ⟨c1, c2, c3, c4, c5, c6, c7⟩ := Vd f3
 cases hn : nnS v with
 | false => rw [Qny c4 hn]; exact h
 | true =>
  have hk := Q6c hn
  obtain ⟨r1, r2, r3, r4⟩ := Qr9 f1 (by rw [f2]; exact hk)
  have hs : Q1a (ofS c) v.nrm = true := by
   unfold Q1a
   rw [if_neg r3, if_neg (by simp [r4]), if_neg r1, if_neg r2]
  unfold Jb
  simp [f1, f2, Vb, Qay f3, hs]
theorem Qcp (f : Q0 → List UInt8) (l : List Q0) : (l.map f).flatten.length = (l.map fun x => (f x).length).sum := by
 induction l with
 | nil => rfl
 | cons x l ih => simp [ih]
theorem Qt3 {l : List Q0} {f g : Q0 → Nat} (h : ∀ x ∈ l, f x ≤ g x) : (l.map f).sum ≤ (l.map g).sum := by
 induction l with
 | nil => simp
 | cons x l ih =>
  have h1 := h x (.head _)
  have h2 := ih (fun y hy => h y (.tail _ hy))
  simp only [List.map_cons, List.sum_cons]; omega
theorem Q5x {rd : List UInt8 → Rd} {P : Q0 → Prop} (e : Q0 → Nat) (hg : Qn8 rd) (h : ∀ s, s.length ≤ 300000 → (rd s).2.2 = 0 → P (rd s).1 ∧ e (rd s).1 ≤ (rd s).2.1.toNat) : ∀ (c : Nat) (s : List UInt8) (acc : List Q0), s.length ≤ 300000 → (∀ x ∈ acc, P x) → (X3 rd c s acc).2 = 0 →
  ∃ k, k ≤ s.length ∧ (X3 rd c s acc).1.2 = s.drop k ∧ ((X3 rd c s acc).1.1.map e).sum ≤ (acc.map e).sum + k ∧ (∀ x ∈ (X3 rd c s acc).1.1, P x) ∧ (X3 rd c s acc).1.1.length = acc.length + c
 | 0, s, acc, _, hP, _ => ⟨0, by omega, by simp [X3], by simp [X3], by simpa [X3] using hP, by simp [X3]⟩
 | c + 1, s, acc, hs, hP, h0 => by
  rw [X3] at h0 ⊢
  split at h0
  ·rename_i he; exact absurd h0 he
  ·rename_i he
   rw [if_neg he]
   obtain ⟨p1, p2⟩ := h s hs (Classical.byContradiction he)
   obtain ⟨g1, g2, g3⟩ := hg s (by omega) (Classical.byContradiction he)
   obtain ⟨k, k1, k2, k3, k4, k5⟩ := Q5x e hg h c (s.drop (rd s).2.1.toNat) (acc ++ [(rd s).1]) (by rw [List.length_drop]; omega) (fun x hx => by
    rcases List.mem_append.1 hx with hx | hx
    ·exact hP x hx
    ·have : x = (rd s).1 := by simpa using hx
     subst this; exact p1) h0
   rw [List.length_drop] at k1
   refine ⟨(rd s).2.1.toNat + k, by omega, by rw [k2, List.drop_drop], ?_, k4, by rw [k5]; simp; omega⟩
   simp only [List.map_append, List.map_cons, List.map_nil, List.sum_append, List.sum_cons, List.sum_nil] at k3
   omega
theorem Qmg {data : Int → List UInt8 → Rd} {c : X5} {s : List UInt8} (h : (Q2a data c s).2.2 = 0) : ∃ (body : List UInt8) (num : Int) (q : (List Q0 × List UInt8) × Int) (cnt : Nat) (rest : List UInt8), s.length ≥ c.Width.toNat + Vj (s.take c.Width.toNat) ∧ body.length = Vj (s.take c.Width.toNat) ∧ c.Width.toNat ≤ body.length ∧ cnt = Vj (body.take c.Width.toNat) ∧
  ((c.Kind ≠ 24 ∧ num = 0 ∧ rest = body.drop c.Width.toNat ∧ q = X3 (Qt data) cnt rest []) ∨ (c.Kind = 24 ∧ ∃ b : UInt8, body.drop c.Width.toNat = b :: rest ∧ ofB (b.toNat : Int) = true ∧ b.toNat ≠ 0 ∧ num = (ofS (b.toNat : Int)).Kind ∧ q = X3 (data (b.toNat : Int)) cnt rest [])) ∧
  (Qaj c.Kind num q (c.Width.toNat + Vj (s.take c.Width.toNat))).2.2 = 0 ∧ Q2a data c s = Qaj c.Kind num q (c.Width.toNat + Vj (s.take c.Width.toNat)) := by
 unfold Q2a at h ⊢
 split at h
 ·cases h
 rename_i h1; rw [if_neg h1]
 split at h
 ·cases h
 rename_i h2; rw [if_neg h2]
 have hbl : ((s.drop c.Width.toNat).take (Vj (s.take c.Width.toNat))).length = Vj (s.take c.Width.toNat) := by rw [List.length_take, List.length_drop]; omega
 unfold Qms at h ⊢
 split at h
 ·cases h
 rename_i h3; rw [if_neg h3]
 split at h
 ·cases h
 rename_i h4; rw [if_neg h4]
 split at h
 ·cases h
 rename_i h5; rw [if_neg h5]
 split at h
 ·rename_i h6; rw [if_pos h6]
  cases hb : ((s.drop c.Width.toNat).take (Vj (s.take c.Width.toNat))).drop c.Width.toNat with
  | nil => rw [hb] at h; cases h
  | cons b rest =>
   rw [hb] at h
   simp only [Qs2] at h ⊢
   split at h
   ·cases h
   rename_i h7; rw [if_neg h7]
   refine ⟨_, _, _, _, rest, by omega, hbl, by omega, rfl, .inr ⟨h6, b, hb, ?_, ?_, rfl, rfl⟩, h, rfl⟩
   ·cases ho : ofB (b.toNat : Int) with
    | true => rfl
    | false => exact absurd (.inl ho) h7
   ·exact fun ho => h7 (.inr ho)
 ·rename_i h6; rw [if_neg h6]
  exact ⟨_, _, _, _, _, by omega, hbl, by omega, rfl, .inl ⟨h6, rfl, rfl, rfl⟩, h, rfl⟩
def LP (code : Int) (r : Rd) : Prop := (r.1.Kind ≠ 25 → J3 code r.1.nrm r.1.nrm.inn = true ∧ (Zt code r.1.nrm r.1.nrm.inn).length ≤ r.2.1.toNat) ∧ r.1.nrm.byt.length ≤ r.2.1.toNat + 1
theorem Qmy {code : Int} {v : Q0} {m : Int} {n : Nat} (hc : ofB code = true) (hk : (ofS code).Kind = v.Kind) (h5 : v.Kind ≠ 25) (hf : Fine v) (hv : Yh v m = 0) (hs : J3 code v.nrm v.nrm.inn = true) (hl : (Zt code v.nrm v.nrm.inn).length ≤ n) : v.nrm.byt.length ≤ n + 1 := by
 have hf' := Q7x hf
 have hv' := Q4x v m hv
 have h5' : v.nrm.Kind ≠ 25 := by rw [Vb]; exact h5
 obtain ⟨g1, g2⟩ := Qex hf' hv' h5'
 obtain ⟨d1, d2, d3⟩ := G3 _ _ g1
 have hle : (ofS v.nrm.cod).Width ≤ (ofS code).Width := by
  unfold Q0.cod
  refine Qi0 (c := code) ?_ ?_
  ·rw [Vb, ← hk]; exact Qfd hc
  ·simpa [Qie] using hs
 have := Qae d1 hc d3 (by rw [Vb]; exact hk) g2 hs hle
 rw [Q8c, if_neg h5']
 omega
theorem Qav {code : Int} {s : List UInt8} (hs : s.length ≤ 300000) (h : (Q7l code s).2.2 = 0) : LP code (Q7l code s) := by
 have hval := Q6n 0 hs h
 generalize hg : Q7l code s = g at h hval ⊢
 obtain ⟨x, n, e⟩ := g
 simp only at h hval
 subst h
 obtain ⟨h1, h2, h3, h4, h5, h6, h7⟩ := reads (by unfold Q7z; omega) hg
 obtain ⟨f1, f2, f3, f4⟩ := Ju h6
 obtain ⟨c1, c2, c3, c4, c5, c6, c7⟩ := Vd f3
 have hi := Vx (Q6i code f1) (by omega)
 have hn := Qoq h6
 have hlen : (J1 (ofS code) x.nrm).length = (J1 (ofS code) x).length := by rw [Q0r hn, Q0r h6, Q5i]
 have hl : (J1 (ofS code) x).length = n.toNat := by rw [h7, List.length_take]; omega
 have hsb : J3 code x.nrm x.nrm.inn = true := by unfold J3; rw [if_pos hi]; exact hn
 have hdl : (Zt code x.nrm x.nrm.inn).length ≤ n.toNat := by rw [Q6o hi hn]; omega
 exact ⟨fun _ => ⟨hsb, hdl⟩, Qmy f1 f2 (by show x.Kind ≠ 25; omega) hval.1 hval.2.1 hsb hdl⟩
theorem Qt5 {s : List UInt8} (h : s.length ≤ 1) : Vj s < 256 := by
 match s, h with
 | [], _ => decide
 | [b], _ =>
  have := b.toNat_lt
  simp [Vj]; omega
theorem Qb2 {m : Nat} (ih : ∀ code s, s.length ≤ 300000 → (Y8 m code s).2.2 = 0 → LP code (Y8 m code s)) (s : List UInt8) (hs : s.length ≤ 300000) (he : (Qt (Y8 m) s).2.2 = 0) : (Qt (Y8 m) s).1.nrm.byt.length ≤ (Qt (Y8 m) s).2.1.toNat := by
 obtain ⟨b, u, rfl, e1, e2⟩ := Qcs he
 have hu : u.length ≤ 300000 := by simp at hs; omega
 have h1 := (ih b.toNat u hu e1).2
 have h2 := (J8 m b.toNat u (by omega) e1).1
 rw [e2]
 simp only []
 omega
theorem Qj9 : ∀ (m : Nat) (code : Int) (s : List UInt8), s.length ≤ 300000 → (Y8 m code s).2.2 = 0 → LP code (Y8 m code s) := by
 intro m
 induction m with
 | zero =>
  intro code s hs he
  obtain ⟨h1, h2 | ⟨h2, k, hk⟩⟩ := Q82 he
  ·rw [Q2q h1 h2] at he ⊢
   exact Qav hs he
  ·omega
 | succ m ih =>
  intro code s hs he
  have hval := Q6l (m + 1) code s hs he
  obtain ⟨h1, h2 | ⟨h2, k, hk⟩⟩ := Q82 he
  ·rw [Q2q h1 h2] at he ⊢
   exact Qav hs he
  rw [Q3p h1 h2] at he hval ⊢
  have hsh := Wu h1 h2
  obtain ⟨hrd, hr1⟩ := Q03 (J8 m)
  have hrl := Qb2 ih
  -- what is written within, of a list, a map, described
  unfold Qda at he hval ⊢
  by_cases k25 : (ofS code).Kind = 25
  ·rw [if_pos k25] at he hval ⊢
   have e1 : (X3 (Qt (Y8 m)) 2 s []).2 = 0 := by
    unfold Qev at he
    split at he
    ·exact he
    ·rename_i h1; exact Classical.byContradiction h1
   obtain ⟨k, q1, q2, q3, q4, q5⟩ := Q5x (P := fun _ => True) (fun x => x.nrm.byt.length) hrd (fun s hs he => ⟨trivial, hrl s hs he⟩) 2 s [] hs (by simp) e1
   unfold Qev
   rw [if_neg (by simp [e1])]
   refine ⟨fun h => absurd rfl h, ?_⟩
   show (Q0.nrm ⟨25, 0, [], (X3 (Qt (Y8 m)) 2 s []).1.1⟩).byt.length ≤ _
   rw [Q8c, Vb, if_pos rfl, Wv]
   simp only [q2, List.length_drop, Int.toNat_natCast]
   rw [List.map_map, Qcp]
   simp only [List.map_nil, List.sum_nil] at q3
   have : ((X3 (Qt (Y8 m)) 2 s []).1.1.map fun x => ((Q0.byt ∘ Q0.nrm) x).length).sum = ((X3 (Qt (Y8 m)) 2 s []).1.1.map fun x => x.nrm.byt.length).sum := rfl
   omega
  rw [if_neg k25] at he hval ⊢
  by_cases hsz : (ofS code).Sized = false
  ·rw [if_pos hsz] at he hval ⊢
   have hk : (ofS code).Kind = 22 := by have := hsh.2 hsz; omega
   have hw0 := Qb8 h1 h2 hsz
   have hsb : J3 code (Q0.nrm ⟨(ofS code).Kind, 0, [], []⟩) (Q0.nrm ⟨(ofS code).Kind, 0, [], []⟩).inn = true := by
    unfold J3
    rw [if_neg (by simp [h2]), if_pos hw0, Wv]; simp
   have hdl : (Zt code (Q0.nrm ⟨(ofS code).Kind, 0, [], []⟩) (Q0.nrm ⟨(ofS code).Kind, 0, [], []⟩).inn).length ≤ 0 := by
    unfold Zt
    rw [if_neg (by simp [h2]), if_pos hsz]; simp
   exact ⟨fun _ => ⟨hsb, hdl⟩, Qmy (n := 0) h1 rfl k25 hval.1 hval.2.1 hsb hdl⟩
  rw [if_neg hsz] at he hval ⊢
  have hsz : (ofS code).Sized = true := by
   cases h : (ofS code).Sized with
   | true => rfl
   | false => exact absurd h hsz
  obtain ⟨body, num, q, cnt, rest, p1, p2, p3, p4, p5, p7, p8⟩ := Qmg he
  obtain ⟨f1, f2, f3, f4⟩ := Qfz p7
  rw [p8, f4] at hval ⊢
  obtain ⟨w14, k22, k24⟩ := hsh.1 hsz
  have key : (Q0.nrm ⟨(ofS code).Kind, num, [], q.1.1⟩).inn.length + (ofS code).Width.toNat ≤ body.length ∧ q.1.1.length = cnt := by
   rcases p5 with ⟨q0, q1, q2, q3⟩ | ⟨q0, b, q1, q2, q3, q4, q5⟩
   ·rw [q3] at f1
    obtain ⟨k, i1, i2, i3, i4, i5⟩ := Q5x (P := fun _ => True) (fun x => x.nrm.byt.length) hrd (fun s hs he => ⟨trivial, hrl s hs he⟩) cnt rest [] (by rw [q2, List.length_drop]; omega) (by simp) f1
    rw [← q3] at i3 i5
    simp only [List.map_nil, List.sum_nil] at i3
    rw [Q41, Vb, if_neg q0, if_neg k25, Wv, List.map_map, Qcp]
    have : (q.1.1.map fun x => ((Q0.byt ∘ Q0.nrm) x).length).sum = (q.1.1.map fun x => x.nrm.byt.length).sum := rfl
    have hr : rest.length = body.length - (ofS code).Width.toNat := by rw [q2, List.length_drop]
    refine ⟨?_, by simpa using i5⟩
    show (q.1.1.map fun x => ((Q0.byt ∘ Q0.nrm) x).length).sum + _ ≤ _
    omega
   ·have hr : rest.length + 1 = body.length - (ofS code).Width.toNat := by
     have := congrArg List.length q1
     rw [List.length_drop, List.length_cons] at this; omega
    have hbk := (Q6i _ q2).kind
    have hb25 : (ofS (b.toNat : Int)).Kind ≠ 25 := fun h => q3 (by have := Qt6 q2 h; omega)
    rw [q5] at f1
    obtain ⟨k, i1, i2, i3, i4, i5⟩ := Q5x (P := fun x => x.Kind = (ofS (b.toNat : Int)).Kind ∧ J3 (b.toNat : Int) x.nrm x.nrm.inn = true) (fun x => (Zt (b.toNat : Int) x.nrm x.nrm.inn).length) (J8 m _) (fun s hs he => by
     have g1 := ih (b.toNat : Int) s hs he
     have g2 := (Q6l m (b.toNat : Int) s hs he).2.2
     have g3 := g1.1 (by rw [g2]; exact hb25)
     exact ⟨⟨g2, g3.1⟩, g3.2⟩) cnt rest [] (by omega) (by simp) f1
    rw [← q5] at i3 i4 i5
    simp only [List.map_nil, List.sum_nil] at i3
    have hN : Q2e (⟨(ofS code).Kind, num, [], q.1.1⟩ : Q0) = num := Q8y (by show (ofS code).Kind ≠ 11 ∧ (ofS code).Kind ≠ 12; omega)
    have hall : Qie (b.toNat : Int) (Q0.prs (Q0.nrm ⟨(ofS code).Kind, num, [], q.1.1⟩)) = true := by
     unfold Qie Q0.prs
     rw [List.all_map, List.all_eq_true]
     intro x hx
     rw [Wv] at hx
     obtain ⟨y, hy, rfl⟩ := List.mem_map.1 hx
     exact (i4 y hy).2
    have hmem : (b.toNat : Int) ∈ Xp (Q0.nrm ⟨(ofS code).Kind, num, [], q.1.1⟩).N' := by
     rw [Q4f, hN, q4]; exact Qfd q2
    have hle : (ofS (Q0.elm (Q0.nrm ⟨(ofS code).Kind, num, [], q.1.1⟩))).Width ≤ (ofS (b.toNat : Int)).Width := Qi0 hmem hall
    obtain ⟨e1, e2⟩ := Qc9 ⟨_, hmem, hall⟩
    have e1 : Q0.elm (Q0.nrm ⟨(ofS code).Kind, num, [], q.1.1⟩) ∈ Xp (Q0.nrm ⟨(ofS code).Kind, num, [], q.1.1⟩).N' := e1
    rw [Q4f, hN] at e1
    obtain ⟨d1, d2, d3⟩ := G3 _ _ e1
    rw [Q41, Vb, if_pos q0, List.length_cons, Qcp, Wv, List.map_map]
    have hsum : (q.1.1.map ((fun x => (Zt (Q0.elm (Q0.nrm ⟨(ofS code).Kind, num, [], q.1.1⟩)) x x.inn).length) ∘ Q0.nrm)).sum ≤ (q.1.1.map fun x => (Zt (b.toNat : Int) x.nrm x.nrm.inn).length).sum := by
     refine Qt3 (fun x hx => ?_)
     obtain ⟨g1, g2⟩ := i4 x hx
     refine Qae d1 q2 (by rw [d3, Vb, g1, q4]) (by rw [Vb, g1]) ?_ g2 hle
     have := List.all_eq_true.1 e2 (x.nrm, x.nrm.inn) (by unfold Q0.prs; rw [Wv]; exact List.mem_map.2 ⟨x.nrm, List.mem_map.2 ⟨x, hx, rfl⟩, rfl⟩)
     exact this
    refine ⟨?_, by simpa using i5⟩
    show (q.1.1.map ((fun x => (Zt (Q0.elm (Q0.nrm ⟨(ofS code).Kind, num, [], q.1.1⟩)) x x.inn).length) ∘ Q0.nrm)).sum + 1 + _ ≤ _
    omega
  obtain ⟨key, hcnt⟩ := key
  have hsb : J3 code (Q0.nrm ⟨(ofS code).Kind, num, [], q.1.1⟩) (Q0.nrm ⟨(ofS code).Kind, num, [], q.1.1⟩).inn = true := by
   unfold J3
   rw [if_neg (by simp [h2]), if_neg (by omega), Wv, List.length_map]
   simp only [decide_eq_true_eq]
   rcases w14 with w | w
   ·right
    have hwn : (ofS code).Width.toNat = 1 := by rw [w]; rfl
    rw [hwn] at p2 p4 key
    have n1 := Qt5 (s := s.take 1) (by rw [List.length_take]; omega)
    have n2 := Qt5 (s := body.take 1) (by rw [List.length_take]; omega)
    omega
   ·left; exact w
  have hdl : (Zt code (Q0.nrm ⟨(ofS code).Kind, num, [], q.1.1⟩) (Q0.nrm ⟨(ofS code).Kind, num, [], q.1.1⟩).inn).length ≤ ((((ofS code).Width.toNat + Vj (s.take (ofS code).Width.toNat) : Nat) : Int)).toNat := by
   rw [Q43 h2 hsz, Int.toNat_natCast]; omega
  exact ⟨fun _ => ⟨hsb, hdl⟩, Qmy h1 rfl k25 hval.1 hval.2.1 hsb hdl⟩
end
end Go.Av
namespace Go.Av
noncomputable section
open Go.Proofs
set_option maxRecDepth 100000
theorem Qlv {v : Q0} {m : Int} (h : Yh v m = 0) (hm : 0 ≤ m ∧ m ≤ 32) : Vl v m = 0 := by
 unfold Vl
 rw [if_neg (by unfold Q7d; simp [hm]), h]
end
end Go.Av
namespace Go.Av
noncomputable section
open Go.Proofs
set_option maxRecDepth 100000
def Q2c (l : Z8) : Bool := decide (16 ≤ l.MaxPacket ∧ l.MaxPacket ≤ 1048576 ∧ 0 ≤ l.MaxDepth ∧ l.MaxDepth ≤ 32)
def Qjp (f : Qk) : Bool := decide (0 ≤ f.Channel ∧ f.Channel ≤ 65535 ∧ f.Ext.length ≤ 1012 ∧ f.Ext.length % 4 = 0)
noncomputable def Qmm (m : Int) : List Q0 → Int
 | [] => 0
 | x :: l => if Vl x m ≠ 0 then Vl x m else Qmm m l
def Xv (l : List Q0) : List UInt8 := (l.map fun x => x.nrm.byt).flatten
def Q86 (f : Qk) : Nat := 8 + f.Ext.length + (Xv f.Values).length
noncomputable def Q29 (f : Qk) (l : Z8) : Int :=
 if Q2c l = false then 2 else if ¬ (f.Type' = 0 ∨ f.Type' = 1) then 8 else if Qjp f = false then 2 else if 1000 < f.Values.length then 4
 else if Qmm l.MaxDepth f.Values ≠ 0 then Qmm l.MaxDepth f.Values else if l.MaxPacket < (Q86 f : Int) then 4 else 0
def Q52 (f : Qk) : List UInt8 := [Q35 (2 + f.Ext.length / 4 : Nat), Q35 f.Type'] ++ V8 f.Channel.toNat 2 ++ f.Ext
def Qa3 (f : Qk) : List UInt8 := V8 (Q86 f) 4 ++ (Q52 f ++ Xv f.Values)
structure FB (f : Qk) : Prop where
 fine : ∀ x ∈ f.Values, Fine x
 sz : Q0.szs f.Values < 160000000
 wgt : Q0.wgts f.Values < 4000000000
theorem FB.one {f : Qk} (h : FB f) : ∀ x ∈ f.Values, Fine x ∧ x.sz < 160000000 ∧ x.wgt < 4000000000 := fun x hx => by
 have h1 := Q0.szs_mem _ x hx
 have h2 := Q4q _ x hx
 have h3 := h.sz
 have h4 := h.wgt
 exact ⟨h.fine x hx, by omega, by omega⟩
theorem FB.len {f : Qk} (h : FB f) : f.Values.length < 160000000 := by
 have h1 := Q0.szs_len f.Values
 have h2 := h.sz
 omega
theorem Qdg (l : List Q0) : (Xv l).length ≤ Q0.wgts l := by
 unfold Xv
 induction l with
 | nil => simp
 | cons x l ih =>
  have h1 := (Q4p x.nrm).2.1
  rw [Qby] at h1
  simp only [List.map_cons, List.flatten_cons, List.length_append, Q0.wgts]; omega
theorem Qdr (l m : List Q0) : Xv (l ++ m) = Xv l ++ Xv m := by simp [Xv]
theorem Qk9 (x : Q0) : Xv [x] = x.nrm.byt := by simp [Xv]
theorem Qaw (l : List Q0) (i : Nat) (h : i < l.length) : Xv (l.take i) ++ l[i].nrm.byt = Xv (l.take (i + 1)) := by
 rw [List.take_succ_eq_append_getElem h, Qdr, Qk9]
theorem Qi2 (l : List Q0) (i : Nat) : (Xv (l.take i)).length ≤ (Xv l).length := by
 conv => rhs; rw [← List.take_append_drop i l, Qdr, List.length_append]
 omega
theorem Qan (N : Nat) (l : Z8) : Wz N l = some (Q2c l) := by
 unfold Wz Q2c
 simp only [Qa, Qfj, Q5n]
 repeat' split
 all_goals (congr 1; symm)
 ·rw [Bool.eq_iff_iff]; simp only [decide_eq_true_eq, Q5n]; omega
 all_goals (rw [decide_eq_false_iff_not]; omega)
theorem Qgv (N : Nat) (n : Int) : V3 N n = some (decide (n = 0 ∨ n = 1)) := by
 unfold V3
 simp only [Qa, Va]
 split
 ·rename_i h; simp [h]
 ·rename_i h
  congr 1
  rw [Bool.eq_iff_iff, Va]; simp [h]
theorem Qd8 {m : Int} : ∀ {l : List Q0}, Qmm m l = 0 → ∀ x ∈ l, Vl x m = 0
 | y :: l, h, x, hx => by
  rw [Qmm] at h
  split at h
  ·rename_i h1; exact absurd h h1
  ·rename_i h1
   rcases List.mem_cons.1 hx with rfl | hx
   ·exact Classical.byContradiction h1
   ·exact Qd8 h x hx
theorem Qme {m : Int} : ∀ {l : List Q0}, (∀ x ∈ l, Vl x m = 0) → Qmm m l = 0
 | [], _ => rfl
 | y :: l, h => by
  rw [Qmm, if_neg (by simp [h y (.head _)])]
  exact Qme (fun x hx => h x (.tail _ hx))
theorem Qal {N : Nat} (hN : N = 800000000) {f : Qk} {l : Z8} (hf : FB f) (he : f.Ext.length ≤ 1012) (hv : ∀ x ∈ f.Values, Vl x l.MaxDepth = 0) : ∀ (n i : Nat), i ≤ f.Values.length → f.Values.length - i < n →
  Xn N f l n ((8 + f.Ext.length + (Xv (f.Values.take i)).length : Nat) : Int) (i : Int) = some (if l.MaxPacket < (Q86 f : Int) then 4 else 0)
 | 0, i, _, h => by omega
 | n + 1, i, hi, hn => by
  simp only [Xn, Qa, Vg, Q3q, Zh, X4]
  have hbl := Qdg f.Values
  have hw := hf.wgt
  have hfl := hf.len
  by_cases h : i < f.Values.length
  ·have hx := List.getElem_mem h
   obtain ⟨h1, h2, h3⟩ := hf.one _ hx
   have ht := Qaw f.Values i h
   have hle := Qi2 f.Values (i + 1)
   rw [← ht, List.length_append] at hle
   rw [if_pos (by omega), List.getElem?_eq_getElem h]
   simp only [Option.bind_some]
   rw [Qr2 N _ _ h1 h3 (by omega) (by omega), if_neg (show ¬ (Vl f.Values[i] l.MaxDepth ≠ 0) by simp [hv _ hx])]
   simp only [Option.bind_some]
   rw [Qu _ (by omega), Qu _ (by omega), show ((8 + f.Ext.length + (Xv (f.Values.take i)).length : Nat) : Int) + (f.Values[i].nrm.byt.length : Int) = ((8 + f.Ext.length + (Xv (f.Values.take (i + 1))).length : Nat) : Int) by rw [← ht, List.length_append]; omega]
   exact_mod_cast Qal hN hf he hv n (i + 1) (by omega) (by omega)
  ·rw [if_neg (by omega), List.take_of_length_le (by omega)]
   unfold Q86
   split
   ·rfl
   ·rfl
theorem Qas {N : Nat} (hN : N = 800000000) {f : Qk} {l : Z8} (hf : FB f) (he : f.Ext.length ≤ 1012) : ∀ (n i : Nat), i ≤ f.Values.length → f.Values.length - i < n → (∀ x ∈ f.Values.take i, Vl x l.MaxDepth = 0) →
  Xj N f l n (i : Int) = some (if Qmm l.MaxDepth (f.Values.drop i) ≠ 0 then Qmm l.MaxDepth (f.Values.drop i) else if l.MaxPacket < (Q86 f : Int) then 4 else 0)
 | 0, i, _, h, _ => by omega
 | n + 1, i, hi, hn, hv => by
  simp only [Xj, Qa, Vg, Uk, Zh, X4]
  have hfl := hf.len
  by_cases h : i < f.Values.length
  ·have hx := List.getElem_mem h
   obtain ⟨h1, h2, h3⟩ := hf.one _ hx
   rw [if_pos (by omega), List.getElem?_eq_getElem h]
   simp only [Option.bind_some]
   rw [Q8e N _ _ h1 (by omega) (by omega)]
   simp only [Option.bind_some]
   rw [List.drop_eq_getElem_cons h]
   by_cases hc : Vl f.Values[i] l.MaxDepth = 0
   ·rw [if_neg (by simp [hc]), Qmm, if_neg (show ¬ (Vl f.Values[i] l.MaxDepth ≠ 0) by simp [hc]), Qu _ (by omega)]
    exact_mod_cast Qas hN hf he n (i + 1) (by omega) (by omega) (fun x hx => by
     rw [List.take_succ_eq_append_getElem h] at hx
     rcases List.mem_append.1 hx with hx | hx
     ·exact hv x hx
     ·have : x = f.Values[i] := by simpa using hx
      subst this; exact hc)
   ·rw [if_pos hc, Qmm, if_pos (show Vl f.Values[i] l.MaxDepth ≠ 0 from hc), if_pos hc]
  ·rw [if_neg (by omega), List.drop_of_length_le (by omega)]
   rw [List.take_of_length_le (by omega)] at hv
   have := Qal hN (l := l) hf he hv N 0 (by omega) (by omega)
   simp only [List.take_zero] at this
   rw [Qu _ (by omega), show (8 + (f.Ext.length : Int)) = ((8 + f.Ext.length + (Xv ([] : List Q0)).length : Nat) : Int) by simp [Xv], show (0 : Int) = ((0 : Nat) : Int) from rfl, this]
   rfl
theorem Quc (n : Nat) : ((n : Int)).tmod 4 = ((n % 4 : Nat) : Int) := by
 rw [Int.tmod_eq_emod_of_nonneg (by omega)]; omega
theorem Qij {N : Nat} (hN : N = 800000000) (f : Qk) (l : Z8) (hf : FB f) : Vw N f l = some (Q29 f l) := by
 simp only [Vw, Qan, Qgv, Option.bind_some, Qa, Vg, Q3q, Uk, Zh, Quc, Q29]
 cases hr : Q2c l with
 | false => rfl
 | true =>
  simp only [Bool.not_true, Bool.false_eq_true, if_false, Bool.true_eq_false]
  by_cases ht : f.Type' = 0 ∨ f.Type' = 1
  ·rw [decide_eq_true ht]
   simp only [Bool.not_true, Bool.false_eq_true, if_false, ht, not_true_eq_false]
   cases ho : Qjp f with
   | false =>
    simp only [if_true]
    unfold Qjp at ho
    rw [decide_eq_false_iff_not] at ho
    repeat' split
    all_goals first | rfl | (exfalso; apply ho; omega)
   | true =>
    unfold Qjp at ho
    rw [decide_eq_true_eq] at ho
    simp only [Bool.true_eq_false, if_false]
    rw [if_neg (by omega), if_neg (by omega), if_neg (by omega), if_neg (by omega)]
    by_cases h1 : 1000 < f.Values.length
    ·rw [if_pos (by omega), if_pos h1]
    ·rw [if_neg (by omega), if_neg h1]
     have := Qas hN (l := l) hf ho.2.2.1 N 0 (by omega) (by have := hf.len; omega) (by simp)
     rw [List.drop_zero] at this
     exact this
  ·rw [decide_eq_false ht]
   simp only [Bool.not_false, if_true, ht, not_false_eq_true]
theorem Qef {f : Qk} {l : Z8} (h : Q29 f l = 0) : Q2c l = true ∧ (f.Type' = 0 ∨ f.Type' = 1) ∧ Qjp f = true ∧ f.Values.length ≤ 1000 ∧ (∀ x ∈ f.Values, Vl x l.MaxDepth = 0) ∧ (Q86 f : Int) ≤ l.MaxPacket := by
 unfold Q29 at h
 split at h
 ·cases h
 rename_i h1
 split at h
 ·cases h
 rename_i h2
 split at h
 ·cases h
 rename_i h3
 split at h
 ·cases h
 rename_i h4
 split at h
 ·rename_i h5; exact absurd h h5
 rename_i h5
 split at h
 ·cases h
 rename_i h6
 exact ⟨by simpa using h1, Classical.byContradiction h2, by simpa using h3, by omega, Qd8 (Classical.byContradiction h5), by omega⟩
theorem Qk6 {f : Qk} {l : Z8} (h1 : Q2c l = true) (h2 : f.Type' = 0 ∨ f.Type' = 1) (h3 : Qjp f = true) (h4 : f.Values.length ≤ 1000) (h5 : ∀ x ∈ f.Values, Vl x l.MaxDepth = 0) (h6 : (Q86 f : Int) ≤ l.MaxPacket) : Q29 f l = 0 := by
 unfold Q29
 rw [if_neg (by simp [h1]), if_neg (by simp [h2]), if_neg (by simp [h3]), if_neg (by omega), if_neg (by simp [Qme h5]), if_neg (by omega)]
theorem Qgw {f : Qk} (h : Qjp f = true) : 0 ≤ f.Channel ∧ f.Channel ≤ 65535 ∧ f.Ext.length ≤ 1012 ∧ f.Ext.length % 4 = 0 := by simpa [Qjp] using h
theorem Qhy (n : Nat) : V8 n 1 = [UInt8.ofNat (n % 256)] := by
 rw [Q3c]
 simp [V8]
theorem Qkw (s : List UInt8) : (s.map fun b => (b.toNat : Int)) = U4 s := rfl
theorem Qet (n : Nat) : UInt8.ofNat (n % 256) = UInt8.ofNat n := by
 apply UInt8.toNat_inj.1
 rw [UInt8.toNat_ofNat', UInt8.toNat_ofNat']
 omega
theorem Qp8 {N : Nat} (hN : N = 800000000) (f : Qk) (ht : f.Type' = 0 ∨ f.Type' = 1) (ho : Qjp f = true) : Xh N ⟨⟨[]⟩, f⟩ = some ((), ⟨⟨U4 (V8 0 4 ++ Q52 f)⟩, f⟩) := by
 obtain ⟨o1, o2, o3, o4⟩ := Qgw ho
 have p0 := Q36 N 0 4 (by omega) (by omega) (by omega)
 have p1 := Q36 N (2 + f.Ext.length / 4) 1 (by omega) (by omega) (by omega)
 have p2 := Q36 N f.Type'.toNat 1 (by omega) (by omega) (by omega)
 have p3 := Q36 N f.Channel.toNat 2 (by omega) (by omega) (by omega)
 have e0 : IntKind.u64.wrap 0 = ((0 : Nat) : Int) := rfl
 have e1 : IntKind.u64.wrap (IntKind.i64.wrap (2 + IntKind.i64.wrap (((f.Ext.length : Int)).tdiv 4))) = ((2 + f.Ext.length / 4 : Nat) : Int) := by
  have : ((f.Ext.length : Int)).tdiv 4 = ((f.Ext.length / 4 : Nat) : Int) := by
   rw [Int.tdiv_eq_ediv_of_nonneg (by omega)]; omega
  rw [this, Qu ((f.Ext.length / 4 : Nat) : Int) (by omega), Qu _ (by omega), show (2 + ((f.Ext.length / 4 : Nat) : Int)) = ((2 + f.Ext.length / 4 : Nat) : Int) by push_cast; rfl, Vv _ (by omega)]
 have e2 : IntKind.u64.wrap f.Type' = ((f.Type'.toNat : Nat) : Int) := by
  have h : ((f.Type'.toNat : Nat) : Int) = f.Type' := by omega
  have h2 := Vv f.Type'.toNat (by omega)
  rw [h] at h2 ⊢; exact h2
 have e3 : IntKind.u64.wrap f.Channel = ((f.Channel.toNat : Nat) : Int) := by
  have h : ((f.Channel.toNat : Nat) : Int) = f.Channel := by omega
  have h2 := Vv f.Channel.toNat (by omega)
  rw [h] at h2 ⊢; exact h2
 rw [show ((4 : Nat) : Int) = 4 from rfl] at p0
 rw [show ((1 : Nat) : Int) = 1 from rfl] at p1 p2
 rw [show ((2 : Nat) : Int) = 2 from rfl] at p3
 simp only [Xh, e0, e1, e2, e3, p0, p1, p2, p3, Option.bind_some, Qa, Za, Qkw, List.nil_append, List.length_nil]
 have hb1 : Q35 ((2 + f.Ext.length / 4 : Nat) : Int) = UInt8.ofNat (2 + f.Ext.length / 4) := rfl
 have hb2 : Q35 f.Type' = UInt8.ofNat f.Type'.toNat := rfl
 have hh : U4 (V8 0 4) ++ U4 (V8 (2 + f.Ext.length / 4) 1) ++ U4 (V8 f.Type'.toNat 1) ++ U4 (V8 f.Channel.toNat 2) ++ U4 f.Ext = U4 (V8 0 4 ++ Q52 f) := by
  rw [← Ul, ← Ul, ← Ul, ← Ul]
  congr 1
  unfold Q52
  rw [Qhy, Qhy, Qet, Qet, hb1, hb2]
  simp
 rw [if_pos (by decide), if_pos (by decide), if_pos (by decide), if_pos (by decide), if_pos (by decide), if_pos (by decide), if_pos (by decide), if_pos (by decide)]
 by_cases h0 : f.Ext.length = 0
 ·rw [if_pos (by simp [h0])]
  have : f.Ext = [] := List.length_eq_zero_iff.1 h0
  rw [← hh, this]
  simp [U4]
 ·rw [if_neg (by simp [h0]), if_pos (by rw [Nat.ble_eq]; omega), hh]
theorem Qoy {N : Nat} (hN : N = 800000000) (b : List UInt8) (f : Qk) (h : 4 ≤ b.length) (hb : b.length < 9223372036854775808) : Xg N ⟨⟨U4 b⟩, f⟩ = some ((), ⟨⟨U4 (V8 b.length 4 ++ b.drop 4)⟩, f⟩) := by
 have p0 := Q36 N b.length 4 (by omega) (by omega) (by omega)
 rw [show ((4 : Nat) : Int) = 4 from rfl] at p0
 simp only [Xg, Uw]
 rw [Vv _ (by omega), p0]
 simp only [Option.bind_some, Qa, Qkw]
 rw [if_pos (by rw [Nat.ble_eq]; omega)]
 have h1 : (U4 (V8 b.length 4)).take b.length = U4 (V8 b.length 4) := List.take_of_length_le (by rw [Uw, Za]; omega)
 rw [h1, Uw, Za]
 have h2 : (U4 b).drop 4 = U4 (b.drop 4) := by unfold U4; rw [List.map_drop]
 rw [h2, ← Ul]
theorem Qe3 {f : Qk} : (Q52 f).length = 4 + f.Ext.length := by
 unfold Q52; simp [Za]; omega
theorem Qab {N : Nat} (hN : N = 800000000) {f : Qk} {l : Z8} {u : Unit × Zu} (hf : FB f) (ho : Qjp f = true) (hu : u.2.f = f) (hv : ∀ x ∈ f.Values, Vl x l.MaxDepth = 0) : ∀ (n i : Nat), i ≤ f.Values.length → f.Values.length - i < n →
  Ys N f l u n (i : Int) (U4 (V8 0 4 ++ (Q52 f ++ Xv (f.Values.take i)))) = some (Qa3 f, 0)
 | 0, i, _, h => by omega
 | n + 1, i, hi, hn => by
  obtain ⟨o1, o2, o3, o4⟩ := Qgw ho
  simp only [Ys, Qa, Vg, Zh, X4]
  have hbl := Qdg f.Values
  have hw := hf.wgt
  have hfl := hf.len
  have hhl := @Qe3 f
  by_cases h : i < f.Values.length
  ·have hx := List.getElem_mem h
   obtain ⟨h1, h2, h3⟩ := hf.one _ hx
   have ht := Qaw f.Values i h
   have hle := Qi2 f.Values (i + 1)
   rw [← ht, List.length_append] at hle
   rw [if_pos (by omega), List.getElem?_eq_getElem h]
   simp only [Option.bind_some]
   rw [Qo7 N _ _ h1 h3 (by omega) (by omega), if_neg (show ¬ (Vl f.Values[i] l.MaxDepth ≠ 0) by simp [hv _ hx])]
   simp only [Option.bind_some, Qkw]
   have ih := Qab hN (u := u) hf ho hu hv n (i + 1) (by omega) (by omega)
   have e : U4 (V8 0 4 ++ (Q52 f ++ Xv (f.Values.take i))) ++ U4 f.Values[i].nrm.byt = U4 (V8 0 4 ++ (Q52 f ++ Xv (f.Values.take (i + 1)))) := by
    rw [← Ul, ← ht]; simp
   rw [Qu _ (by omega)]
   by_cases h0 : f.Values[i].nrm.byt.length = 0
   ·rw [if_pos (by simp [h0])]
    have : f.Values[i].nrm.byt = [] := List.length_eq_zero_iff.1 h0
    rw [this] at e
    have e' : U4 (V8 0 4 ++ (Q52 f ++ Xv (f.Values.take i))) = U4 (V8 0 4 ++ (Q52 f ++ Xv (f.Values.take (i + 1)))) := by rw [← e]; simp [U4]
    rw [e']
    exact_mod_cast ih
   ·rw [if_neg (by simp [h0]), if_pos (by rw [Nat.ble_eq, Uw]; simp only [List.length_append, Za]; omega), e]
    exact_mod_cast ih
  ·rw [if_neg (by omega), List.take_of_length_le (by omega), hu, Qoy hN _ f (by simp [Za]) (by simp only [List.length_append, Za]; omega)]
   simp only [Option.bind_some, Qdy]
   have hlen : (V8 0 4 ++ (Q52 f ++ Xv f.Values)).length = Q86 f := by
    unfold Q86; simp only [List.length_append, Za]; omega
   rw [hlen, List.drop_left' (Za 4 0)]
   rfl
theorem Qih {N : Nat} (hN : N = 800000000) (f : Qk) (l : Z8) (hf : FB f) : V2 N f l = some (if Q29 f l ≠ 0 then ([], Q29 f l) else (Qa3 f, 0)) := by
 simp only [V2, Qij hN f l hf, Option.bind_some, Qa, Uk]
 by_cases h : Q29 f l = 0
 ·obtain ⟨c1, c2, c3, c4, c5, c6⟩ := Qef h
  rw [if_neg (by simp [h]), if_neg (by simp [h]), Qp8 hN f c2 c3]
  simp only [Option.bind_some]
  have := Qab hN (l := l) (u := ((), ⟨⟨U4 (V8 0 4 ++ Q52 f)⟩, f⟩)) hf c3 rfl c5 N 0 (by omega) (by have := hf.len; omega)
  simp only [List.take_zero, Xv, List.map_nil, List.flatten_nil, List.append_nil, Int.natCast_zero] at this
  simp only [this]
 ·rw [if_pos h, if_pos h]
end
end Go.Av
namespace Go.Av
noncomputable section
open Go.Proofs
set_option maxRecDepth 100000
theorem Qcr {f : Qk} : (Qa3 f).length = Q86 f := by
 have := @Qe3 f
 unfold Qa3 Q86; simp only [List.length_append, Za]; omega
def Qk.nrm (f : Qk) : Qk := ⟨f.Type', f.Channel, f.Ext, f.Values.map Q0.nrm⟩
theorem Qfb {N : Nat} (hN : N = 800000000) {f : Qk} (hf : FB f) : ∀ (n i : Nat), i ≤ f.Values.length → f.Values.length - i < n → W8 N f n (i : Int) ((f.Values.take i).map Q0.nrm) = some f.nrm
 | 0, i, _, h => by omega
 | n + 1, i, hi, hn => by
  have hfl := hf.len
  simp only [W8, Qa, Vg, Zh, X4]
  by_cases h : i < f.Values.length
  ·obtain ⟨h1, h2, h3⟩ := hf.one _ (List.getElem_mem h)
   rw [if_pos (by omega), List.getElem?_eq_getElem h]
   simp only [Option.bind_some]
   rw [Qbs N _ (by omega) (by omega)]
   simp only [Option.bind_some]
   rw [if_pos (by rw [Nat.ble_eq, List.length_map, List.length_take]; omega), Qu _ (by omega)]
   have e : (f.Values.take i).map Q0.nrm ++ [f.Values[i].nrm] = (f.Values.take (i + 1)).map Q0.nrm := by
    rw [List.take_succ_eq_append_getElem h, List.map_append]; rfl
   rw [e]
   exact_mod_cast Qfb hN hf n (i + 1) (by omega) (by omega)
  ·rw [if_neg (by omega), List.take_of_length_le (by omega)]; rfl
theorem Qlw {N : Nat} (hN : N = 800000000) (f : Qk) (hf : FB f) : U8 N f = some f.nrm := by
 have := Qfb hN hf N 0 (by omega) (by have := hf.len; omega)
 simp only [List.take_zero, List.map_nil, Int.natCast_zero] at this
 simpa only [U8] using this
theorem Qk.ext' {a b : Qk} (h1 : a.Type' = b.Type') (h2 : a.Channel = b.Channel) (h3 : a.Ext = b.Ext) (h4 : a.Values = b.Values) : a = b := by cases a; cases b; simp_all
noncomputable instance : DecidableEq Qk := fun a b => decidable_of_iff (a.Type' = b.Type' ∧ a.Channel = b.Channel ∧ a.Ext = b.Ext ∧ a.Values = b.Values) ⟨fun h => Qk.ext' h.1 h.2.1 h.2.2.1 h.2.2.2, fun h => by rw [h]; exact ⟨rfl, rfl, rfl, rfl⟩⟩
theorem Qou (l m : List Q0) (i : Nat) (h : i < l.length) (h' : i < m.length) : decide (l.drop i = m.drop i) = (decide (l[i] = m[i]) && decide (l.drop (i + 1) = m.drop (i + 1))) := by
 rw [List.drop_eq_getElem_cons h, List.drop_eq_getElem_cons h', Bool.eq_iff_iff]
 simp only [decide_eq_true_eq, Bool.and_eq_true, List.cons.injEq]
theorem Qfc {N : Nat} (hN : N = 800000000) {a b : Qk} (ha : Q0.szs a.Values < 700000000) (hl : a.Values.length = b.Values.length) : ∀ (n i : Nat), i ≤ a.Values.length → a.Values.length - i < n → Yn N a b n (i : Int) = some (decide (a.Values.drop i = b.Values.drop i))
 | 0, i, _, h => by omega
 | n + 1, i, hi, hn => by
  have hs := Q0.szs_len a.Values
  simp only [Yn, Qa, Vg, Zh, X4]
  by_cases h : i < a.Values.length
  ·have h' : i < b.Values.length := by omega
   have hx := Q0.szs_mem _ _ (List.getElem_mem h)
   rw [if_pos (by omega), List.getElem?_eq_getElem h, List.getElem?_eq_getElem h']
   simp only [Option.bind_some]
   rw [Qjz N _ _ (by omega) (by omega), Qou _ _ i h h']
   simp only [Option.bind_some]
   rw [Qu _ (by omega)]
   have ih := Qfc hN ha hl n (i + 1) (by omega) (by omega)
   have ih : Yn N a b n ((i : Int) + 1) = some (decide (a.Values.drop (i + 1) = b.Values.drop (i + 1))) := by exact_mod_cast ih
   rw [ih]
   cases decide (a.Values[i] = b.Values[i]) <;> rfl
  ·rw [if_neg (by omega), List.drop_of_length_le (by omega), List.drop_of_length_le (by omega)]; rfl
theorem Qn1 {N : Nat} (hN : N = 800000000) (a b : Qk) (ha : Q0.szs a.Values < 700000000) : Ug N a b = some (decide (a = b)) := by
 have hs := Q0.szs_len a.Values
 simp only [Ug, Qa, Uk, Q0k, Zh]
 by_cases h1 : a.Type' = b.Type'
 ·rw [if_neg (by simp [h1])]
  by_cases h2 : a.Channel = b.Channel
  ·rw [if_neg (by simp [h2])]
   by_cases h3 : a.Ext = b.Ext
   ·rw [if_neg (by simp [h3])]
    by_cases h4 : a.Values.length = b.Values.length
    ·rw [if_neg (by simp [h4])]
     have := Qfc hN ha h4 N 0 (by omega) (by omega)
     rw [List.drop_zero, List.drop_zero] at this
     have : Yn N a b N 0 = some (decide (a.Values = b.Values)) := by exact_mod_cast this
     rw [this]
     congr 1
     rw [Bool.eq_iff_iff]
     simp only [decide_eq_true_eq]
     exact ⟨fun h => Qk.ext' h1 h2 h3 h, fun h => by rw [h]⟩
    ·rw [if_pos (by omega), decide_eq_false (fun h => h4 (by rw [h]))]
   ·rw [if_pos h3, decide_eq_false (fun h => h3 (by rw [h]))]
  ·rw [if_pos h2, decide_eq_false (fun h => h2 (by rw [h]))]
 ·rw [if_pos h1, decide_eq_false (fun h => h1 (by rw [h]))]
theorem Qf8 {N : Nat} (hN : N = 800000000) {f : Qk} (hl : f.Values.length ≤ 6) : ∀ (n i : Nat), i ≤ f.Values.length → f.Values.length - i < n → ∃ b, Zo N f n (i : Int) = some b ∧ (b = true → ∀ x ∈ f.Values.drop i, x.sz ≤ 40 ∧ x.txt)
 | 0, i, _, h => by omega
 | n + 1, i, hi, hn => by
  simp only [Zo, Qa, Vg, Zh, X4]
  by_cases h : i < f.Values.length
  ·rw [if_pos (by omega), List.getElem?_eq_getElem h]
   obtain ⟨b1, l1, l2⟩ := Qj0 N f.Values[i] (by omega)
   simp only [Option.bind_some, l1]
   cases b1 with
   | false => exact ⟨false, rfl, fun h => by cases h⟩
   | true =>
    rw [Qu _ (by omega)]
    obtain ⟨b, e1, e2⟩ := Qf8 hN hl n (i + 1) (by omega) (by omega)
    refine ⟨b, ?_, fun hb x hx => ?_⟩
    ·simp only [Bool.not_true, Bool.false_eq_true, if_false]; exact_mod_cast e1
    ·rw [List.drop_eq_getElem_cons h] at hx
     rcases List.mem_cons.1 hx with rfl | hx
     ·exact l2 rfl
     ·exact e2 hb x hx
  ·rw [if_neg (by omega), List.drop_of_length_le (by omega)]
   exact ⟨true, rfl, fun _ x hx => by cases hx⟩
theorem Qg8 {N : Nat} (hN : N = 800000000) (f : Qk) : ∃ b, Yy N f = some b ∧ (b = true → f.Values.length ≤ 6 ∧ f.Ext.length ≤ 1100 ∧ ∀ x ∈ f.Values, x.sz ≤ 40 ∧ x.txt) := by
 simp only [Yy, Qa, Q3q, Zh]
 by_cases h1 : (f.Values.length : Int) > 6
 ·rw [if_pos h1]; exact ⟨false, rfl, fun h => by cases h⟩
 ·rw [if_neg h1]
  by_cases h2 : (f.Ext.length : Int) > 1100
  ·rw [if_pos h2]; exact ⟨false, rfl, fun h => by cases h⟩
  ·rw [if_neg h2]
   obtain ⟨b, e1, e2⟩ := Qf8 hN (f := f) (by omega) N 0 (by omega) (by omega)
   refine ⟨b, by exact_mod_cast e1, fun hb => ⟨by omega, by omega, ?_⟩⟩
   have := e2 hb
   rwa [List.drop_zero] at this
theorem Qb0 : ∀ (l : List Q0), (∀ x ∈ l, x.sz ≤ 40 ∧ x.txt) → Q0.szs l ≤ 40 * l.length ∧ Q0.wgts l ≤ 17200 * l.length
 | [], _ => by simp [Q0.szs, Q0.wgts]
 | x :: m, h => by
  have h1 := h x (.head _)
  have h2 := Qb0 m (fun y hy => h y (.tail _ hy))
  have h3 := Qq3 x h1.2
  simp only [Q0.szs, Q0.wgts, List.length_cons]; omega
end
end Go.Av
namespace Go.Av
noncomputable section
open Go.Proofs
set_option maxRecDepth 100000
def Qlr : Qk := ⟨0, 0, [], []⟩
def Q4l (s : List UInt8) (l : Z8) : Int × Int :=
 if Q2c l = false then (0, 2) else if s.length < 8 then (0, 3) else if l.MaxPacket < (Vj (s.take 4) : Int) then (0, 4)
 else if Vj (s.take 4) < 8 ∨ (s.getD 4 0).toNat < 2 ∨ Vj (s.take 4) < 4 * (s.getD 4 0).toNat then (0, 5)
 else if 1 < (s.getD 5 0).toNat then (0, 8) else ((Vj (s.take 4) : Int), 0)
def Q0t (rd : List UInt8 → Rd) : Nat → List UInt8 → List Q0 → List Q0 × Int
 | 0, _, _ => ([], 0)
 | k + 1, s, acc => if s = [] then (acc, 0) else if acc.length = 1000 then ([], 4) else if (rd s).2.2 = 3 then ([], 5) else if (rd s).2.2 ≠ 0 then ([], (rd s).2.2) else Q0t rd k (s.drop (rd s).2.1.toNat) (acc ++ [(rd s).1])
def Qs3 (q : List Q0 × Int) (r : List Q0 → Qk × Int × Int) : Qk × Int × Int := if q.2 ≠ 0 then (Qlr, 0, q.2) else r q.1
theorem Qft (l : List Q0) (r : List Q0 → Qk × Int × Int) : Qs3 (l, 0) r = r l := if_neg (fun h => h rfl)
theorem Qcn (l : List Q0) {e : Int} (h : e ≠ 0) (r : List Q0 → Qk × Int × Int) : Qs3 (l, e) r = (Qlr, 0, e) := if_pos h
def Q94 (s : List UInt8) (n : Nat) : List UInt8 := (s.take n).drop (4 * (s.getD 4 0).toNat)
noncomputable def Qeb (s : List UInt8) (n : Nat) (m : Nat) : Qk × Int × Int :=
 Qs3 (Q0t (Qt (Y8 m)) ((Q94 s n).length + 1) (Q94 s n) []) fun vs => (⟨((s.getD 5 0).toNat : Int), (Vj ((s.take 8).drop 6) : Int), (s.take (4 * (s.getD 4 0).toNat)).drop 8, vs⟩, (n : Int), 0)
noncomputable def Jv (s : List UInt8) (l : Z8) : Qk × Int × Int :=
 if (Q4l s l).2 ≠ 0 then (Qlr, 0, (Q4l s l).2) else if s.length < Vj (s.take 4) then (Qlr, 0, 3) else Qeb s (Vj (s.take 4)) l.MaxDepth.toNat
theorem Qrm {s : List UInt8} (h : 8 ≤ s.length) : ∃ a0 a1 a2 a3 a4 a5 a6 a7 t, s = a0 :: a1 :: a2 :: a3 :: a4 :: a5 :: a6 :: a7 :: t := by
 match s, h with
 | a0 :: a1 :: a2 :: a3 :: a4 :: a5 :: a6 :: a7 :: t, _ => exact ⟨a0, a1, a2, a3, a4, a5, a6, a7, t, rfl⟩
theorem Qo9 (b : UInt8) : UInt8.ofNat ((b.toNat : Int)).toNat = b := by simp
theorem Qlo (b : UInt8) : IntKind.i64.wrap (b.toNat : Int) = ((b.toNat : Nat) : Int) := by
 have := b.toNat_lt
 rw [Qu _ (by omega)]
theorem Qtv (b : UInt8) : IntKind.u64.wrap (b.toNat : Int) = ((b.toNat : Nat) : Int) := by
 have := b.toNat_lt
 exact Vv _ (by omega)
theorem Q81 {l : Z8} (h : Q2c l = true) : 16 ≤ l.MaxPacket ∧ l.MaxPacket ≤ 1048576 ∧ 0 ≤ l.MaxDepth ∧ l.MaxDepth ≤ 32 := by simpa [Q2c] using h
theorem Qwg (a b c d : UInt8) : Vj [a, b, c, d] < 4294967296 := by
 have := Q27 [a, b, c, d]
 simpa using this
theorem Qve (a b : UInt8) : Vj [a, b] < 65536 := by
 have := Q27 [a, b]
 simpa using this
theorem Qid {s : List UInt8} {l : Z8} (h : (Q4l s l).2 = 0) : Q2c l = true ∧ 8 ≤ s.length ∧ (Vj (s.take 4) : Int) ≤ l.MaxPacket ∧ 8 ≤ Vj (s.take 4) ∧ 2 ≤ (s.getD 4 0).toNat ∧ 4 * (s.getD 4 0).toNat ≤ Vj (s.take 4) ∧ (s.getD 5 0).toNat ≤ 1 ∧ Q4l s l = ((Vj (s.take 4) : Int), 0) := by
 unfold Q4l at h ⊢
 split at h
 ·cases h
 rename_i h1; rw [if_neg h1]
 split at h
 ·cases h
 rename_i h2; rw [if_neg h2]
 split at h
 ·cases h
 rename_i h3; rw [if_neg h3]
 split at h
 ·cases h
 rename_i h4; rw [if_neg h4]
 split at h
 ·cases h
 rename_i h5; rw [if_neg h5]
 exact ⟨by simpa using h1, by omega, by omega, by omega, by omega, by omega, by omega, rfl⟩
theorem Qq9 {N : Nat} (hN : N = 800000000) (s : List UInt8) (l : Z8) : Ud N s l = some (Q4l s l) := by
 simp only [Ud, Qan, Option.bind_some, Qa, Vg, Q3q, Q4l]
 cases hr : Q2c l with
 | false => rfl
 | true =>
  obtain ⟨r1, r2, r3, r4⟩ := Q81 hr
  simp only [Bool.not_true, Bool.false_eq_true, if_false, Bool.true_eq_false]
  by_cases h8 : s.length < 8
  ·rw [if_pos (by omega), if_pos h8]
  rw [if_neg (by omega), if_neg h8]
  obtain ⟨a0, a1, a2, a3, a4, a5, a6, a7, t, rfl⟩ := Qrm (s := s) (by omega)
  have i0 : idx (a0 :: a1 :: a2 :: a3 :: a4 :: a5 :: a6 :: a7 :: t) 0 = some a0 := rfl
  have i1 : idx (a0 :: a1 :: a2 :: a3 :: a4 :: a5 :: a6 :: a7 :: t) 1 = some a1 := rfl
  have i2 : idx (a0 :: a1 :: a2 :: a3 :: a4 :: a5 :: a6 :: a7 :: t) 2 = some a2 := rfl
  have i3 : idx (a0 :: a1 :: a2 :: a3 :: a4 :: a5 :: a6 :: a7 :: t) 3 = some a3 := rfl
  have i4 : idx (a0 :: a1 :: a2 :: a3 :: a4 :: a5 :: a6 :: a7 :: t) 4 = some a4 := rfl
  have i5 : idx (a0 :: a1 :: a2 :: a3 :: a4 :: a5 :: a6 :: a7 :: t) 5 = some a5 := rfl
  have i6 : idx (a0 :: a1 :: a2 :: a3 :: a4 :: a5 :: a6 :: a7 :: t) 6 = some a6 := rfl
  have i7 : idx (a0 :: a1 :: a2 :: a3 :: a4 :: a5 :: a6 :: a7 :: t) 7 = some a7 := rfl
  have e0 : (a0 :: a1 :: a2 :: a3 :: a4 :: a5 :: a6 :: a7 :: t).take 4 = [a0, a1, a2, a3] := rfl
  have e4 : (a0 :: a1 :: a2 :: a3 :: a4 :: a5 :: a6 :: a7 :: t).getD 4 0 = a4 := rfl
  have e5 : (a0 :: a1 :: a2 :: a3 :: a4 :: a5 :: a6 :: a7 :: t).getD 5 0 = a5 := rfl
  have b4 := a4.toNat_lt
  have b5 := a5.toNat_lt
  have bn := Qwg a0 a1 a2 a3
  rw [i0, i1, i2, i3, i4, i5, i6, i7, e0, e4, e5]
  simp only [Option.bind_some, Qo9, Qlo, Qtv]
  rw [Q8s N [a0, a1, a2, a3] (by simp) (by omega)]
  have ew : IntKind.u64.wrap l.MaxPacket = l.MaxPacket := by
   have h : ((l.MaxPacket.toNat : Nat) : Int) = l.MaxPacket := by omega
   have h2 := Vv l.MaxPacket.toNat (by omega)
   rw [h] at h2; exact h2
  have e4w : IntKind.u64.wrap ((a4.toNat : Int) * 4) = ((4 * a4.toNat : Nat) : Int) := by
   rw [show ((a4.toNat : Int) * 4) = ((4 * a4.toNat : Nat) : Int) by omega, Vv _ (by omega)]
  simp only [Option.bind_some, ew, e4w, Qgv]
  generalize Vj [a0, a1, a2, a3] = n at bn ⊢
  by_cases c1 : l.MaxPacket < (n : Int)
  ·rw [if_pos (by omega), if_pos c1]
  rw [if_neg (by omega), if_neg c1]
  by_cases c2 : n < 8 ∨ a4.toNat < 2 ∨ n < 4 * a4.toNat
  ·rw [if_pos c2]
   repeat' split
   all_goals first | rfl | omega
  rw [if_neg c2, if_neg (by omega), if_neg (by omega), if_neg (by omega)]
  by_cases c3 : 1 < a5.toNat
  ·rw [if_pos c3, decide_eq_false (by omega)]; rfl
  ·rw [if_neg c3, decide_eq_true (by omega)]
   simp only [Bool.not_true, Bool.false_eq_true, if_false]
   rw [Qu _ (by omega)]
theorem Q8k {rd : List UInt8 → Rd} (hg : ∀ s, s.length ≤ 600000 → (rd s).2.2 = 0 → 1 ≤ (rd s).2.1) : ∀ (k k' : Nat) (s : List UInt8) (acc : List Q0), s.length ≤ 600000 → s.length < k → s.length < k' → Q0t rd k s acc = Q0t rd k' s acc
 | 0, _, s, acc, _, h, _ => by omega
 | k + 1, 0, s, acc, _, _, h => by omega
 | k + 1, k' + 1, s, acc, hs, h1, h2 => by
  simp only [Q0t]
  by_cases h0 : s = []
  ·rw [if_pos h0, if_pos h0]
  rw [if_neg h0, if_neg h0]
  by_cases h3 : acc.length = 1000
  ·rw [if_pos h3, if_pos h3]
  rw [if_neg h3, if_neg h3]
  by_cases h4 : (rd s).2.2 = 3
  ·rw [if_pos h4, if_pos h4]
  rw [if_neg h4, if_neg h4]
  by_cases h5 : (rd s).2.2 = 0
  ·rw [if_neg (by simp [h5]), if_neg (by simp [h5])]
   have := hg s hs h5
   have hl : 0 < s.length := List.length_pos_iff.2 h0
   exact Q8k hg k k' _ _ (by rw [List.length_drop]; omega) (by rw [List.length_drop]; omega) (by rw [List.length_drop]; omega)
  ·rw [if_pos h5, if_pos h5]
theorem Qbo (m : Nat) : ∀ s : List UInt8, s.length ≤ 600000 → (Qt (Y8 m) s).2.2 = 0 → 1 ≤ (Qt (Y8 m) s).2.1 := fun s hs he => by
 have := (Q03 (J8 m)).2 s hs he
 omega
theorem Qm8 {N : Nat} (hN : N = 800000000) {s0 : List UInt8} {l : Z8} {m : Nat} (hm : l.MaxDepth = (m : Int)) (hm2 : m ≤ 32) {v1 : Int × Int} {b5 b7 : UInt8} {v10 : Int} : ∀ (n : Nat) (left : List UInt8) (acc : List Q0), left.length ≤ 600000 → left.length < n → acc.length ≤ 1000 →
  W4 N s0 l v1 b5 b7 v10 n left acc = some (Qs3 (Q0t (Qt (Y8 m)) n left acc) fun vs => (⟨IntKind.i64.wrap (b7.toNat : Int), IntKind.i64.wrap v10, (s0.take (IntKind.i64.wrap (4 * IntKind.i64.wrap (b5.toNat : Int))).toNat).drop 8, vs⟩, v1.1, 0))
 | 0, left, acc, _, h, _ => by omega
 | n + 1, left, acc, hl, hn, ha => by
  simp only [W4, Qa, Q0k, Va, Uk, Q0t, hm]
  by_cases h0 : left = []
  ·rw [if_neg (by simp [h0]), if_pos h0, Qft]
  rw [if_pos h0, if_neg h0]
  by_cases h3 : acc.length = 1000
  ·rw [if_pos (by omega), if_pos h3, Qcn _ (by decide)]; rfl
  rw [if_neg (by omega), if_neg h3, Qsk m N left hm2 (by omega) hl]
  simp only [Option.bind_some]
  by_cases h4 : (Qt (Y8 m) left).2.2 = 3
  ·rw [if_pos h4, if_pos h4, Qcn _ (by decide)]; rfl
  rw [if_neg h4, if_neg h4]
  by_cases h5 : (Qt (Y8 m) left).2.2 = 0
  ·rw [if_neg (show ¬ ((Qt (Y8 m) left).2.2 ≠ 0) by simp [h5]), if_neg (show ¬ ((Qt (Y8 m) left).2.2 ≠ 0) by simp [h5])]
   have g1 := Qbo m left hl h5
   have g2 := ((Q03 (J8 m)).1 left hl h5).2.1
   have hp : 0 < left.length := List.length_pos_iff.2 h0
   rw [if_pos (by rw [Nat.ble_eq]; omega), if_pos (by simp; omega), if_pos (by simp [Nat.ble_eq]; omega), List.take_length]
   exact Qm8 hN hm hm2 n _ _ (by rw [List.length_drop]; omega) (by rw [List.length_drop]; omega) (by simp; omega)
  ·rw [if_pos h5, if_pos (show (Qt (Y8 m) left).2.2 ≠ 0 from h5), Qcn _ h5]; rfl
theorem Qdu {N : Nat} (hN : N = 800000000) (s : List UInt8) (l : Z8) (hs : s.length ≤ 600000) : Vi N s l = some (Jv s l) := by
 simp only [Vi, Qq9 hN, Option.bind_some, Qa, Uk, Vg, Jv]
 by_cases he : (Q4l s l).2 = 0
 ·rw [if_neg (show ¬ ((Q4l s l).2 ≠ 0) from fun h => h he), if_neg (show ¬ ((Q4l s l).2 ≠ 0) from fun h => h he)]
  obtain ⟨q1, q2, q3, q4, q5, q6, q7, q8⟩ := Qid he
  obtain ⟨r1, r2, r3, r4⟩ := Q81 q1
  rw [q8]
  simp only []
  by_cases hl : s.length < Vj (s.take 4)
  ·rw [if_pos (by omega), if_pos hl]; rfl
  rw [if_neg (by omega), if_neg hl]
  obtain ⟨a0, a1, a2, a3, a4, a5, a6, a7, t, rfl⟩ := Qrm q2
  have i4 : idx (a0 :: a1 :: a2 :: a3 :: a4 :: a5 :: a6 :: a7 :: t) 4 = some a4 := rfl
  have i5 : idx (a0 :: a1 :: a2 :: a3 :: a4 :: a5 :: a6 :: a7 :: t) 5 = some a5 := rfl
  have e6 : ((a0 :: a1 :: a2 :: a3 :: a4 :: a5 :: a6 :: a7 :: t).take 8).drop 6 = [a6, a7] := rfl
  have e4 : (a0 :: a1 :: a2 :: a3 :: a4 :: a5 :: a6 :: a7 :: t).getD 4 0 = a4 := rfl
  have e5 : (a0 :: a1 :: a2 :: a3 :: a4 :: a5 :: a6 :: a7 :: t).getD 5 0 = a5 := rfl
  have b4 := a4.toNat_lt
  have b7 := Qve a6 a7
  rw [e4] at q5 q6
  have ew : IntKind.i64.wrap (4 * IntKind.i64.wrap (a4.toNat : Int)) = ((4 * a4.toNat : Nat) : Int) := by
   rw [Qlo, Qu _ (by omega)]; push_cast; rfl
  rw [i4, i5]
  simp only [Option.bind_some, ew, Int.toNat_natCast]
  rw [if_pos (by simp [Nat.ble_eq]), e6, Q8s N [a6, a7] (by simp) (by omega)]
  simp only [Option.bind_some]
  rw [if_pos (by rw [decide_eq_true_eq]; omega), if_pos (by simp only [Nat.ble_eq, Bool.and_eq_true]; omega), if_pos (by rw [decide_eq_true_eq]; omega), if_pos (by simp only [Nat.ble_eq, Bool.and_eq_true]; omega)]
  have hm : l.MaxDepth = ((l.MaxDepth.toNat : Nat) : Int) := by omega
  have hdl : (((a0 :: a1 :: a2 :: a3 :: a4 :: a5 :: a6 :: a7 :: t).take (Vj ((a0 :: a1 :: a2 :: a3 :: a4 :: a5 :: a6 :: a7 :: t).take 4))).drop (4 * a4.toNat)).length ≤ 600000 := by
   rw [List.length_drop, List.length_take]; omega
  rw [Qm8 hN hm (by omega) N _ _ hdl (by omega) (by simp)]
  unfold Qeb Q94
  rw [e4, e5, e6, Q8k (Qbo _) N (_ + 1) _ [] hdl (by rw [hN]; omega) (Nat.lt_succ_self _), ew, Qlo]
  simp only [Int.toNat_natCast, Qu ((Vj [a6, a7] : Nat) : Int) (by omega)]
 ·rw [if_pos he, if_pos he]; rfl
end
end Go.Av
namespace Go.Av
noncomputable section
open Go.Proofs
set_option maxRecDepth 100000
theorem Qqi : Xu 800000000 = some true := by decide +kernel
theorem Qog (l : List Q0) : Q0.szs (l.map Q0.nrm) = Q0.szs l := by
 induction l with
 | nil => rfl
 | cons x l ih => simp only [List.map_cons, Q0.szs, Q42, ih]
theorem Ql1 (m : Nat) : ∀ s : List UInt8, s.length ≤ 600000 → (Qt (Y8 m) s).2.2 = 0 → 1 ≤ (Qt (Y8 m) s).2.1 ∧ (Qt (Y8 m) s).2.1 ≤ s.length ∧ (Qt (Y8 m) s).1.sz ≤ 1 + 1000 * (Qt (Y8 m) s).2.1.toNat := fun s hs he => by
 have h1 := (Q03 (J8 m)).1 s hs he
 exact ⟨Qbo m s hs he, h1.2.1, h1.2.2⟩
end
end Go.Av
namespace Go.Av
noncomputable section
open Go.Proofs
set_option maxRecDepth 100000
theorem Qai {m : Nat} : ∀ (l : List Q0) (k : Nat) (acc : List Q0), (∀ x ∈ l, Fine x ∧ Yh x m = 0 ∧ x.wgt < 4000000000) → acc.length + l.length ≤ 1000 → (Xv l).length < k → Q0t (Qt (Y8 m)) k (Xv l) acc = (acc ++ l.map Q0.nrm, 0)
 | [], k + 1, acc, _, _, _ => by simp [Xv, Q0t]
 | x :: l, 0, acc, _, _, h => by omega
 | x :: l, k + 1, acc, hx, hl, hk => by
  obtain ⟨h1, h2, h3⟩ := hx x (.head _)
  have e : Xv (x :: l) = x.nrm.byt ++ Xv l := by simp [Xv]
  have hb := (Qop x.nrm m (Q7x h1) (Q4x x m h2) (by rw [Qby]; exact h3)).2 (Xv l)
  have hp := Q8c x.nrm
  rw [e, List.length_append] at hk
  simp only [List.length_cons] at hl
  rw [e, Q0t, if_neg (by intro h; have := congrArg List.length h; rw [List.length_append, List.length_nil] at this; omega), if_neg (by omega), hb, if_neg (by simp), if_neg (by simp)]
  simp only [Int.toNat_natCast]
  rw [List.drop_left, Qai l k (acc ++ [x.nrm]) (fun y hy => hx y (.tail _ hy)) (by simp; omega) (by omega)]
  simp
theorem Qu3 {l : List UInt8} (h : l.length = 4) : ∃ a b c d, l = [a, b, c, d] := by
 match l, h with
 | [a, b, c, d], _ => exact ⟨a, b, c, d, rfl⟩
theorem Qtt {l : List UInt8} (h : l.length = 2) : ∃ a b, l = [a, b] := by
 match l, h with
 | [a, b], _ => exact ⟨a, b, rfl⟩
theorem Qmv {f : Qk} (ho : Qjp f = true) (ht : f.Type' = 0 ∨ f.Type' = 1) (hw : Q86 f < 4294967296) (t : List UInt8) : ∃ x0 x1 x2 x3 c0 c1 a b : UInt8, Qa3 f ++ t = x0 :: x1 :: x2 :: x3 :: a :: b :: c0 :: c1 :: (f.Ext ++ (Xv f.Values ++ t)) ∧
  Vj [x0, x1, x2, x3] = Q86 f ∧ (Vj [c0, c1] : Int) = f.Channel ∧ a.toNat = 2 + f.Ext.length / 4 ∧ (b.toNat : Int) = f.Type' := by
 obtain ⟨o1, o2, o3, o4⟩ := Qgw ho
 obtain ⟨x0, x1, x2, x3, e1⟩ := Qu3 (Za 4 (Q86 f))
 obtain ⟨c0, c1, e2⟩ := Qtt (Za 2 f.Channel.toNat)
 refine ⟨x0, x1, x2, x3, c0, c1, Q35 (2 + f.Ext.length / 4 : Nat), Q35 f.Type', ?_, ?_, ?_, ?_, ?_⟩
 ·unfold Qa3 Q52
  rw [e1, e2]; simp
 ·rw [← e1, Q1k, Nat.mod_eq_of_lt (by omega)]
 ·rw [← e2, Q1k, Nat.mod_eq_of_lt (by omega)]; omega
 ·have := Q2l (c := ((2 + f.Ext.length / 4 : Nat) : Int)) (by omega)
  omega
 ·exact Q2l (by omega)
theorem Qjy {f : Qk} {l : Z8} (hf : FB f) (hc : Q29 f l = 0) (t : List UInt8) : Q4l (Qa3 f ++ t) l = ((Q86 f : Int), 0) ∧ Jv (Qa3 f ++ t) l = (f.nrm, (Q86 f : Int), 0) := by
 obtain ⟨c1, c2, c3, c4, c5, c6⟩ := Qef hc
 obtain ⟨r1, r2, r3, r4⟩ := Q81 c1
 obtain ⟨o1, o2, o3, o4⟩ := Qgw c3
 have htot : 8 + f.Ext.length + (Xv f.Values).length = Q86 f := rfl
 obtain ⟨x0, x1, x2, x3, d0, d1, a, b, e, n1, n2, n3, n4⟩ := Qmv c3 c2 (by omega) t
 rw [e]
 have i0 : (x0 :: x1 :: x2 :: x3 :: a :: b :: d0 :: d1 :: (f.Ext ++ (Xv f.Values ++ t))).take 4 = [x0, x1, x2, x3] := rfl
 have i4 : (x0 :: x1 :: x2 :: x3 :: a :: b :: d0 :: d1 :: (f.Ext ++ (Xv f.Values ++ t))).getD 4 0 = a := rfl
 have i5 : (x0 :: x1 :: x2 :: x3 :: a :: b :: d0 :: d1 :: (f.Ext ++ (Xv f.Values ++ t))).getD 5 0 = b := rfl
 have i6 : ((x0 :: x1 :: x2 :: x3 :: a :: b :: d0 :: d1 :: (f.Ext ++ (Xv f.Values ++ t))).take 8).drop 6 = [d0, d1] := rfl
 have i8 : (x0 :: x1 :: x2 :: x3 :: a :: b :: d0 :: d1 :: (f.Ext ++ (Xv f.Values ++ t))).drop 8 = f.Ext ++ (Xv f.Values ++ t) := rfl
 have ha : 4 * a.toNat = 8 + f.Ext.length := by omega
 have hh : Q4l (x0 :: x1 :: x2 :: x3 :: a :: b :: d0 :: d1 :: (f.Ext ++ (Xv f.Values ++ t))) l = ((Q86 f : Int), 0) := by
  unfold Q4l
  rw [i0, i4, i5, n1, if_neg (by simp [c1]), if_neg (by simp), if_neg (by omega), if_neg (by omega), if_neg (by omega)]
 refine ⟨hh, ?_⟩
 unfold Jv
 have hlen : (x0 :: x1 :: x2 :: x3 :: a :: b :: d0 :: d1 :: (f.Ext ++ (Xv f.Values ++ t))).length = 8 + f.Ext.length + (Xv f.Values).length + t.length := by simp; omega
 rw [hh, if_neg (by simp), i0, n1, if_neg (by rw [hlen]; omega)]
 unfold Qeb
 have hbody : Q94 (x0 :: x1 :: x2 :: x3 :: a :: b :: d0 :: d1 :: (f.Ext ++ (Xv f.Values ++ t))) (Q86 f) = Xv f.Values := by
  unfold Q94
  rw [i4, ha, List.drop_take, ← List.drop_drop, i8, List.drop_left, show Q86 f - (8 + f.Ext.length) = (Xv f.Values).length by omega, List.take_left]
 have hext : ((x0 :: x1 :: x2 :: x3 :: a :: b :: d0 :: d1 :: (f.Ext ++ (Xv f.Values ++ t))).take (4 * a.toNat)).drop 8 = f.Ext := by
  rw [ha, List.drop_take, i8, show 8 + f.Ext.length - 8 = f.Ext.length by omega, List.take_left]
 have hm : l.MaxDepth = ((l.MaxDepth.toNat : Nat) : Int) := by omega
 rw [hbody, i4, i5, i6, hext, n2, n4, Qai f.Values _ [] (fun x hx => ⟨(hf.one x hx).1, by
  have := (Q9s (c5 x hx)).1
  rwa [hm] at this, (hf.one x hx).2.2⟩) (by simp; omega) (Nat.lt_succ_self _), Qft]
 simp only [List.nil_append]
 rfl
end
end Go.Av
namespace Go.Av
noncomputable section
open Go.Proofs
set_option maxRecDepth 100000
theorem Qac {m : Nat} : ∀ (k : Nat) (s : List UInt8) (acc : List Q0), s.length ≤ 300000 → s.length < k → (Q0t (Qt (Y8 m)) k s acc).2 = 0 → acc.length ≤ 1000 →
  ∃ l, (Q0t (Qt (Y8 m)) k s acc).1 = acc ++ l ∧ (∀ x ∈ l, Fine x ∧ Yh x m = 0) ∧ (Xv l).length ≤ s.length ∧ (acc ++ l).length ≤ 1000
 | 0, s, acc, _, h, _, _ => by omega
 | k + 1, s, acc, hs, hk, he, ha => by
  rw [Q0t] at he ⊢
  split
  ·exact ⟨[], by simp, by simp, by simp [Xv], by simpa using ha⟩
  rename_i h0; rw [if_neg h0] at he
  split
  ·rename_i h1; rw [if_pos h1] at he; cases he
  rename_i h1; rw [if_neg h1] at he
  split
  ·rename_i h2; rw [if_pos h2] at he; cases he
  rename_i h2; rw [if_neg h2] at he
  split
  ·rename_i h3; rw [if_pos h3] at he; exact absurd he h3
  rename_i h3; rw [if_neg h3] at he
  have hr := Classical.byContradiction h3
  obtain ⟨g1, g2, g3⟩ := Ql1 m s (by omega) hr
  have hle := Qb2 (m := m) (Qj9 m) s hs hr
  obtain ⟨b, u, hu, e1, e2⟩ := Qcs hr
  have hv := Q6l m b.toNat u (by rw [hu] at hs; simp at hs; omega) e1
  obtain ⟨l, q1, q2, q3, q4⟩ := Qac k (s.drop (Qt (Y8 m) s).2.1.toNat) (acc ++ [(Qt (Y8 m) s).1]) (by rw [List.length_drop]; omega) (by rw [List.length_drop]; omega) he (by simp; omega)
  refine ⟨(Qt (Y8 m) s).1 :: l, by rw [q1]; simp, fun x hx => ?_, ?_, by simpa using q4⟩
  ·rcases List.mem_cons.1 hx with rfl | hx
   ·rw [e2]; exact ⟨hv.1, hv.2.1⟩
   ·exact q2 x hx
  ·have e : Xv ((Qt (Y8 m) s).1 :: l) = (Qt (Y8 m) s).1.nrm.byt ++ Xv l := by simp [Xv]
   rw [List.length_drop] at q3
   rw [e, List.length_append]; omega
theorem Qoo {s : List UInt8} {l : Z8} (hs : s.length ≤ 300000) (he : (Jv s l).2.2 = 0) : 8 ≤ (Jv s l).2.1 ∧ (Jv s l).2.1 ≤ s.length ∧ (Jv s l).2.1 ≤ l.MaxPacket ∧ (Q86 (Jv s l).1 : Int) ≤ (Jv s l).2.1 ∧ Q29 (Jv s l).1 l = 0 ∧ (∀ x ∈ (Jv s l).1.Values, Fine x) ∧ Q2c l = true := by
 have hh : (Q4l s l).2 = 0 := by
  unfold Jv at he
  split at he
  ·exact he
  ·rename_i h; exact Classical.byContradiction h
 obtain ⟨q1, q2, q3, q4, q5, q6, q7, q8⟩ := Qid hh
 obtain ⟨r1, r2, r3, r4⟩ := Q81 q1
 unfold Jv at he ⊢
 rw [if_neg (show ¬ ((Q4l s l).2 ≠ 0) from fun h => h hh)] at he ⊢
 split at he
 ·cases he
 rename_i hl
 rw [if_neg hl]
 have hbl : (Q94 s (Vj (s.take 4))).length = Vj (s.take 4) - 4 * (s.getD 4 0).toNat := by
  unfold Q94
  rw [List.length_drop, List.length_take]; omega
 unfold Qeb at he ⊢
 generalize hq : Q0t (Qt (Y8 l.MaxDepth.toNat)) ((Q94 s (Vj (s.take 4))).length + 1) (Q94 s (Vj (s.take 4))) [] = q at he ⊢
 have hq2 : q.2 = 0 := by
  unfold Qs3 at he
  split at he
  ·exact he
  ·rename_i h; exact Classical.byContradiction h
 obtain ⟨vs, v1, v2, v3, v4⟩ := Qac ((Q94 s (Vj (s.take 4))).length + 1) (Q94 s (Vj (s.take 4))) [] (by omega) (Nat.lt_succ_self _) (by rw [hq]; exact hq2) (by simp)
 rw [hq, List.nil_append] at v1
 have hqe : q = (vs, 0) := Prod.ext v1 hq2
 rw [hqe, Qft]
 obtain ⟨a0, a1, a2, a3, a4, a5, a6, a7, t, hst⟩ := Qrm q2
 have b6 := Qve a6 a7
 have i6 : (s.take 8).drop 6 = [a6, a7] := by rw [hst]; rfl
 have b4 := (s.getD 4 0).toNat_lt
 have hel : ((s.take (4 * (s.getD 4 0).toNat)).drop 8).length = 4 * (s.getD 4 0).toNat - 8 := by
  rw [List.length_drop, List.length_take]; omega
 have htot : Q86 ⟨((s.getD 5 0).toNat : Int), (Vj ((s.take 8).drop 6) : Int), (s.take (4 * (s.getD 4 0).toNat)).drop 8, vs⟩ ≤ Vj (s.take 4) := by
  unfold Q86
  simp only []
  rw [hel]; omega
 refine ⟨by simp only []; omega, by simp only []; omega, by simp only []; omega, by simp only []; omega, ?_, fun x hx => (v2 x hx).1, q1⟩
 refine Qk6 q1 (by simp only []; omega) ?_ (by simpa using v4) (fun x hx => ?_) (Int.le_trans (Int.ofNat_le.2 htot) q3)
 ·unfold Qjp
  simp only [decide_eq_true_eq]
  rw [hel, i6]; omega
 ·refine Qlv ?_ ⟨r3, r4⟩
  have := (v2 x hx).2
  rwa [show ((l.MaxDepth.toNat : Nat) : Int) = l.MaxDepth by omega] at this
theorem Qlq {s : List UInt8} {l : Z8} (he : (Jv s l).2.2 ≠ 0) : (Jv s l).2.1 = 0 ∧ (Jv s l).1 = Qlr := by
 unfold Jv at he ⊢
 split
 ·exact ⟨rfl, rfl⟩
 rename_i h1; rw [if_neg h1] at he
 split
 ·exact ⟨rfl, rfl⟩
 rename_i h2; rw [if_neg h2] at he
 unfold Qeb Qs3 at he ⊢
 split
 ·exact ⟨rfl, rfl⟩
 ·rename_i h3; rw [if_neg h3] at he; exact absurd rfl he
theorem Qlc {f : Qk} (hl : f.Values.length ≤ 6) (h : ∀ x ∈ f.Values, x.sz ≤ 40 ∧ x.txt) (hv : ∀ x ∈ f.Values, Fine x) : FB f := by
 obtain ⟨h1, h2⟩ := Qb0 _ h
 exact ⟨hv, by omega, by omega⟩
theorem Qbf {N : Nat} (hN : N = 800000000) {u v : Qk × Int × Int} {b : List UInt8 × Int} (hf : FB u.1) (hv : v = (u.1.nrm, (b.1.length : Int), 0)) : ∀ (n i : Nat), i ≤ u.1.Values.length → u.1.Values.length - i < n → Ql N u b v n (i : Int) = some true
 | 0, i, _, h => by omega
 | n + 1, i, hi, hn => by
  have hfl := hf.len
  have hsz := hf.sz
  subst hv
  simp only [Ql, Qa, Vg, Va, Zh, X4]
  by_cases h : i < u.1.Values.length
  ·obtain ⟨h1, h2, h3⟩ := hf.one _ (List.getElem_mem h)
   have e : u.1.nrm.Values[i]? = some u.1.Values[i].nrm := by
    unfold Qk.nrm
    rw [List.getElem?_map, List.getElem?_eq_getElem h]; rfl
   have el : u.1.nrm.Values.length = u.1.Values.length := by unfold Qk.nrm; simp
   rw [if_pos (by omega), if_pos trivial, el, if_pos rfl, e, List.getElem?_eq_getElem h]
   simp only [Option.bind_some]
   rw [Qba N _ h1 (by omega) (by omega)]
   simp only [Option.bind_some]
   rw [Q78 N _ _ (by rw [Q42]; omega) (by rw [Q42]; omega)]
   simp only [Option.bind_some, decide_true, Bool.not_true, Bool.false_eq_true, if_false]
   rw [Qu _ (by omega)]
   exact_mod_cast Qbf hN hf rfl n (i + 1) (by omega) (by omega)
  ·rw [if_neg (by omega), if_pos trivial, if_pos trivial, Qlw hN u.1 hf]
   simp only [Option.bind_some]
   rw [Qn1 hN _ _ (by unfold Qk.nrm; rw [Qog]; omega)]
   simp
theorem Qo8 {N : Nat} (hN : N = 800000000) (hlv : Xu N = some true) (s : List UInt8) (l : Z8) : Zv N s l = some true := by
 simp only [Zv, hlv, Option.bind_some, Qa, Bool.not_true, Bool.false_eq_true, if_false, Q3q, Vg, Uk]
 by_cases hs : s.length > 200
 ·rw [if_pos (by omega)]
 rw [if_neg (by omega), Qdu hN s l (by omega)]
 simp only [Option.bind_some]
 by_cases he : (Jv s l).2.2 = 0
 ·rw [if_neg (show ¬ ((Jv s l).2.2 ≠ 0) from fun h => h he)]
  obtain ⟨q1, q2, q3, q4, q5, q6, q7⟩ := Qoo (by omega) he
  obtain ⟨b1, l1, l2⟩ := Qg8 hN (Jv s l).1
  rw [l1]
  simp only [Option.bind_some]
  cases b1 with
  | false => rfl
  | true =>
   obtain ⟨n1, x1, v1⟩ := l2 rfl
   have hfb := Qlc n1 v1 q6
   simp only [Bool.not_true, Bool.false_eq_true, if_false]
   rw [Qih hN _ l hfb, if_neg (show ¬ (Q29 (Jv s l).1 l ≠ 0) from fun h => h q5)]
   simp only [Option.bind_some, Qcr]
   have hr := (Qjy hfb q5 []).2
   rw [List.append_nil] at hr
   rw [if_neg (by omega), if_neg (by omega), if_neg (by omega), if_neg (by simp), if_neg (by omega), Qdu hN _ l (by rw [Qcr]; omega), hr]
   simp only [Option.bind_some]
   have := Qbf hN (u := Jv s l) (b := (Qa3 (Jv s l).1, 0)) hfb (v := ((Jv s l).1.nrm, ((Qa3 (Jv s l).1).length : Int), 0)) rfl N 0 (by omega) (by have := hfb.len; omega)
   rw [Qcr] at this
   exact_mod_cast this
 ·rw [if_pos (show (Jv s l).2.2 ≠ 0 from he), (Qlq he).1]; rfl
theorem Qdq (s : List UInt8) (l : Z8) (_ : OkL l) : Zv 800000000 s l = some true := Qo8 rfl Qqi s l
end
end Go.Av
