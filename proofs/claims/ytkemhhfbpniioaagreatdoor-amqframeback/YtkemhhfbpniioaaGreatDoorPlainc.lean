/- The law. Part of a proof of a given statement: for every input the law returns true and the arguments read as before; no condition beyond the given row. -/
import Derived.Test.YtkemhhfbpniioaaGreatDoorPlainb
import Derived.Test.YtkemhhfbpniioaaGreatDoorOks
namespace Go.Av
noncomputable section
open Go.Proofs
set_option maxRecDepth 100000
theorem Q45 {α : Type} (f : Q0 → List α) (l : List Q0) (i : Nat) (h : i < l.length) : ((l.take i).map f).flatten ++ f l[i] = ((l.take (i + 1)).map f).flatten := by
 rw [List.take_succ_eq_append_getElem h, List.map_append, List.flatten_append]; simp
theorem Qaz (f : Q0 → List UInt8) (l : List Q0) (i : Nat) : ((l.take i).map f).flatten.length ≤ (l.map f).flatten.length := by
 conv => rhs; rw [← List.take_append_drop i l, List.map_append, List.flatten_append, List.length_append]
 omega
theorem Q5t {v : Q0} (hw : v.wgt < 4000000000) : v.inn.length < 1000000000000000000 ∧ (v.Items.map Q0.byt).flatten.length < 1000000000000000000 ∧ (∀ c, (v.Items.map fun x => Yo c x x.inn).flatten.length < 1000000000000000000) ∧ ∀ x ∈ v.Items, x.wgt < 4000000000 := by
 have hwe := v.wgt_eq
 have h1 := (Q3i v).1
 have s1 : ∀ (f : Q0 → List UInt8) (l : List Q0), (∀ x ∈ l, (f x).length ≤ x.wgt) → (l.map f).flatten.length ≤ Q0.wgts l := by
  intro f l
  induction l with
  | nil => intro _; simp
  | cons x l ihl =>
   intro h
   have h1 := h x (.head _)
   have h2 := ihl (fun y hy => h y (.tail _ hy))
   simp only [List.map_cons, List.flatten_cons, List.length_append, Q0.wgts]; omega
 refine ⟨by omega, ?_, fun c => ?_, fun x hx => by have := Qj7 hx; omega⟩
 ·have := s1 Q0.byt v.Items (fun x _ => (Q3i x).2.1); omega
 ·have := s1 (fun x => Yo c x x.inn) v.Items (fun x _ => by have := (Q3i x).2.2 c; omega); omega
end
end Go.Av
namespace Go.Av
noncomputable section
open Go.Proofs
set_option maxRecDepth 100000
abbrev Qdk := Q1
mutual
def Q0.frm : Q0 → Qdk
 | .mk k n t is => ⟨⟨k, n, t, is⟩, Q0.frms is, if k = 24 then Q0.elm ⟨k, n, t, is⟩ else 0, if 22 ≤ k ∧ k ≤ 24 then ((Q0.inn ⟨k, n, t, is⟩).length : Int) else 0⟩
def Q0.frms : List Q0 → List Qdk
 | [] => []
 | v :: l => v.frm :: Q0.frms l
end
theorem Qjk : ∀ l, Q0.frms l = l.map Q0.frm
 | [] => rfl
 | v :: l => by rw [Q0.frms, Qjk l]; rfl
theorem Q6b (v : Q0) : v.frm = ⟨v, v.Items.map Q0.frm, if v.Kind = 24 then v.elm else 0, if 22 ≤ v.Kind ∧ v.Kind ≤ 24 then (v.inn.length : Int) else 0⟩ := by
 cases v; rw [Q0.frm, Qjk]
theorem Qhr (v : Q0) : v.frm.v = v := by rw [Q6b]
theorem Q2k (v : Q0) : v.frm.kids = v.Items.map Q0.frm := by rw [Q6b]
theorem Gb (l : List Qdk) : (Q1.rows l).length = l.length := by rw [Q1.rows_eq, Jj]
theorem Qnd (N : Nat) (code : Int) (v : Q0) (hc : ofB code = true) (hn : okU v.N') (h : v.Text.length < N) (hb : v.Text.length < 4611686018427387904) (hk : (ofS code).Kind ≠ 25) (hi : (ofS code).Items = true → 22 ≤ v.Kind ∧ v.Kind ≤ 24) (hl : v.inn.length < 1000000000000000000) :
  Zh N v.frm code = some (Q1h code v v.inn) := by
 simp only [Zh, Qw, Qhr, Option.bind_some, Qjn N code v hn h hb, Q9, V0, Gb, Q2k, List.length_map, Q1h]
 by_cases hi' : (ofS code).Items = false
 ·rw [if_pos (by simp [hi']), if_pos hi']
 ·have hi' : (ofS code).Items = true := by simpa using hi'
  rw [if_neg (show ¬ ((!(ofS code).Items) = true) by simp [hi']), if_neg hk, if_neg (show ¬ ((ofS code).Items = false) by simp [hi'])]
  by_cases hs : (ofS code).Sized = true
  ·have hw := ((Vq hc hi').1 hs).1
   rw [if_neg (show ¬ ((!(ofS code).Sized) = true) by simp [hs]), if_neg (show ¬ (ofS code).Width = 0 by omega)]
   by_cases h4 : (ofS code).Width = 4
   ·rw [if_pos h4]; simp [h4]
   ·rw [if_neg h4, Q6b]
    simp only [if_pos (hi hi')]
    rw [Qx _ (by omega)]
    split
    ·rename_i h5
     rw [Q54] at h5
     congr 1
     rw [Bool.eq_iff_iff, Q54]; simp [h4]; omega
    ·rename_i h5
     rw [Q54] at h5
     congr 1
     symm
     rw [decide_eq_false_iff_not]; omega
  ·have hs : (ofS code).Sized = false := by simpa using hs
   rw [if_pos (show (!(ofS code).Sized) = true by simp [hs]), if_pos (Qgo hc hi' hs)]
   congr 1
   rw [Bool.eq_iff_iff, V0]; simp
theorem Qab {N : Nat} {k0 : Int → Option Int} {l : List Qdk} {s54 code : Int} {P : Qdk → Bool} (hb : l.length < 1000000000) (hR : ∀ f ∈ l, Zh N f code = some (P f)) : ∀ (n k : Nat) (all : Bool), k ≤ l.length → l.length - k < n →
  Yc N k0 l s54 code n all (k : Int) = if (all && (l.drop k).all P) = true then some code else k0 (IntKind.i64.wrap (s54 + 1))
 | 0, k, all, _, h => by omega
 | n + 1, k, all, hk, hn => by
  simp only [Yc, Q9, Vh, Gb, Xr]
  by_cases h : k < l.length
  ·rw [if_pos (by omega), List.getElem?_eq_getElem h, List.drop_eq_getElem_cons h]
   simp only [Option.bind_some, hR _ (List.getElem_mem h)]
   rw [Qx _ (by omega)]
   cases all with
   | false =>
    have ih := Qab (N := N) (k0 := k0) (s54 := s54) hb hR n (k + 1) false (by omega) (by omega)
    rw [if_neg (by simp)]
    simp only [Bool.false_and] at ih ⊢
    exact_mod_cast ih
   | true =>
    have ih := Qab (N := N) (k0 := k0) (s54 := s54) hb hR n (k + 1) (P l[k]) (by omega) (by omega)
    rw [if_pos rfl]
    simp only [List.all_cons, Bool.true_and]
    exact_mod_cast ih
  ·rw [if_neg (by omega), List.drop_of_length_le (by omega)]
   cases all <;> simp
theorem Qf6 {N : Nat} {l : List Qdk} {v1 : List Int} {P : Int → Qdk → Bool} (hb : l.length < 1000000000) (hb1 : v1.length < 1000) (hN : l.length < N) (hR : ∀ c ∈ v1, ∀ f ∈ l, Zh N f c = some (P c f)) : ∀ (n i : Nat), i ≤ v1.length → v1.length - i < n →
  Y1 N l v1 n (i : Int) = some (((v1.drop i).find? (fun c => l.all (P c))).getD 0)
 | 0, i, _, h => by omega
 | n + 1, i, hi, hn => by
  simp only [Y1, Q9, Vh, Jj, Xr]
  by_cases h : i < v1.length
  ·rw [if_pos (by omega), List.getElem?_eq_getElem h]
   simp only [Option.bind_some]
   have := Qab (k0 := Y1 N l v1 n) (s54 := (i : Int)) hb (hR _ (List.getElem_mem h)) N 0 true (by omega) (by omega)
   rw [show (0 : Int) = ((0 : Nat) : Int) from rfl, this, List.drop_zero, Bool.true_and, List.drop_eq_getElem_cons h, List.find?_cons]
   cases l.all (P v1[i]) with
   | true => simp
   | false =>
    rw [if_neg (by simp), Qx _ (by omega)]
    exact_mod_cast Qf6 hb hb1 hN hR n (i + 1) (by omega) (by omega)
  ·rw [if_neg (by omega), List.drop_of_length_le (by omega)]; simp
theorem Qg3 (N : Nat) (k : Int) (l : List Qdk) (P : Int → Qdk → Bool) (hb : l.length < 1000000000) (hN : l.length < N) (hN2 : 10 < N) (hR : ∀ c ∈ Wu k, ∀ f ∈ l, Zh N f c = some (P c f)) : Xt N k l = some (((Wu k).find? (fun c => l.all (P c))).getD 0) := by
 have hc := Qhl k
 simp only [Xt, Gg, Option.bind_some]
 have := Qf6 (N := N) (v1 := Wu k) hb (by omega) hN hR N 0 (by omega) (by omega)
 rw [List.drop_zero] at this
 exact this
theorem Qcr (N : Nat) (k : Int) (l : List Q0) (hk : k ≠ 25) (hb : l.length < 1000000000) (hN : l.length < N) (hN2 : 10 < N) (hl : ∀ x ∈ l, x.Kind = k ∧ k ≤ 24 ∧ okU x.N' ∧ x.Text.length < N ∧ x.Text.length < 4611686018427387904 ∧ x.inn.length < 1000000000000000000) :
  Xt N k (l.map Q0.frm) = some (Q1a k (l.map fun x => (x, x.inn))) := by
 rw [Qg3 N k (l.map Q0.frm) (fun c f => Q1h c f.v f.v.inn) (by simpa using hb) (by simpa using hN) hN2 (fun c hc f hf => by
  obtain ⟨x, hx, rfl⟩ := List.mem_map.1 hf
  obtain ⟨h1, h2, h3, h4, h5, h6⟩ := hl x hx
  obtain ⟨d1, d2, d3⟩ := Q07 _ _ hc
  rw [Qhr]
  exact Qnd N c x d1 h3 h4 h5 (by omega) (fun hi => by rw [(Qal c d1).items, d3] at hi; simp at hi; omega) h6)]
 unfold Q1a Qnw
 congr 3
 funext c
 rw [List.all_map, List.all_map]
 congr 1
 funext x
 simp only [Function.comp, Qhr]
theorem Qkm : Wu 25 = [0] := by decide +kernel
theorem Qaq (N : Nat) (v : Q0) (m : Int) (hf : Fine v) (hc : W0 v m = 0) (hw : v.wgt < 4000000000) (hN : 300100 ≤ N) : Y3 N v.frm = some (if v.Kind = 25 then 0 else v.cod) := by
 have ht := hf.text
 have hk := Q2q hc
 simp only [Y3, Qhr]
 by_cases h5 : v.Kind = 25
 ·rw [if_pos h5, h5, Qg3 N 25 [v.frm] (fun _ _ => true) (by simp) (by simp; omega) (by omega) (fun c hc f hf => by
   rw [Qkm] at hc
   have : c = 0 := by simpa using hc
   subst this
   obtain ⟨o1, o2, o3⟩ := of0
   simp only [Zh, Qw, Option.bind_some, Q9, V0]
   rw [if_neg (by simp [o3]), if_pos o2]), Qkm]
  rfl
 ·rw [if_neg h5]
  have := Qcr N v.Kind [v] h5 (by simp) (by simp; omega) (by omega) (fun x hx => by
   have : x = v := by simpa using hx
   subst this
   exact ⟨rfl, by omega, hf.num, by omega, by omega, (Q5t hw).1⟩)
  rw [show [v.frm] = [v].map Q0.frm from rfl, this]
  rfl
def Vi (s : List UInt8) : List Int := s.map fun b => (b.toNat : Int)
theorem Vw (s t : List UInt8) : Vi (s ++ t) = Vi s ++ Vi t := by simp [Vi]
theorem Uh (s : List UInt8) : (Vi s).length = s.length := by simp [Vi]
theorem Qld (N : Nat) (b : List Int) (s : List UInt8) (h : b.length + s.length < 17592186040000) : Yi N ⟨b⟩ s = some ((), ⟨b ++ Vi s⟩) := by
 simp only [Yi, Q9]
 split
 ·rename_i h1
  have : s = [] := List.length_eq_zero_iff.1 (by simpa using h1)
  subst this
  simp [Vi]
 ·rw [if_pos (by rw [Nat.ble_eq]; omega)]; rfl
theorem Q0e (N : Nat) (b : List Int) (n w : Nat) (hn : n < 9223372036854775808) (hw : w ≤ 8) (hN : 10 < N) (h : b.length < 17592186030000) : Qz N ⟨b⟩ (n : Int) (w : Int) = some ((), ⟨b ++ Vi (Wr n w)⟩) := by
 simp only [Qz]
 rw [V5 _ (by omega), Q1v N n w (by omega) hw hN]
 simp only [Option.bind_some]
 rw [Qld N b _ (by rw [Za]; omega)]
 rfl
theorem Qr7 {c : Int} (h : 0 ≤ c ∧ c < 256) : Wr c.toNat 1 = [Q1t c] := by
 rw [Q2j]
 simp only [Nat.pow_zero, Nat.div_one, Wr, Q1t]
 rw [Nat.mod_eq_of_lt (by omega)]
theorem Qry {R : Q2 → Qdk → Option (Unit × Q2)} {N : Nat} {f : Qdk} {l : List Q0} (hk : f.kids = l.map Q0.frm) (hb : l.length < 1000000000) {b : List Int} (hbl : b.length + (l.map Q0.byt).flatten.length < 17592186030000)
  (hR : ∀ x ∈ l, ∀ b : List Int, b.length + x.byt.length < 17592186030000 → R ⟨⟨b⟩⟩ x.frm = some ((), ⟨⟨b ++ Vi x.byt⟩⟩)) : ∀ (n i : Nat), i ≤ l.length → l.length - i < n →
  Zn R N f n (i : Int) (b ++ Vi ((l.take i).map Q0.byt).flatten) = some ((), ⟨⟨b ++ Vi (l.map Q0.byt).flatten⟩⟩) ∧
  Zp R N f n (i : Int) (b ++ Vi ((l.take i).map Q0.byt).flatten) = some ((), ⟨⟨b ++ Vi (l.map Q0.byt).flatten⟩⟩)
 | 0, i, _, h => by omega
 | n + 1, i, hi, hn => by
  simp only [Zn, Zp, Q9, Vh, Gb, hk, List.length_map, Xr, List.getElem?_map]
  by_cases h : i < l.length
  ·have hft := Q45 Q0.byt l i h
   have h1 := Qaz Q0.byt l (i + 1)
   rw [← hft, List.length_append] at h1
   rw [if_pos (by omega), if_pos (by omega), List.getElem?_eq_getElem h]
   simp only [Option.map_some, Option.bind_some, hR _ (List.getElem_mem h) _ (show (b ++ Vi ((l.take i).map Q0.byt).flatten).length + l[i].byt.length < 17592186030000 by rw [List.length_append, Uh]; omega)]
   rw [Qx _ (by omega), List.append_assoc, ← Vw, hft]
   obtain ⟨ih1, ih2⟩ := Qry (N := N) hk hb hbl hR n (i + 1) (by omega) (by omega)
   exact ⟨by exact_mod_cast ih1, by exact_mod_cast ih2⟩
  ·rw [if_neg (by omega), if_neg (by omega), List.take_of_length_le (by omega)]
   exact ⟨rfl, rfl⟩
theorem Qte {R : Q2 → Int → Qdk → Option (Unit × Q2)} {N : Nat} {f : Qdk} {l : List Q0} {c : Int} (hk : f.kids = l.map Q0.frm) (hel : f.element = c) (hb : l.length < 1000000000) {b : List Int} (hbl : b.length + (l.map fun x => Yo c x x.inn).flatten.length < 17592186030000)
  (hR : ∀ x ∈ l, ∀ b : List Int, b.length + (Yo c x x.inn).length < 17592186030000 → R ⟨⟨b⟩⟩ c x.frm = some ((), ⟨⟨b ++ Vi (Yo c x x.inn)⟩⟩)) : ∀ (n i : Nat), i ≤ l.length → l.length - i < n →
  Zo R N f n (i : Int) (b ++ Vi ((l.take i).map fun x => Yo c x x.inn).flatten) = some ((), ⟨⟨b ++ Vi (l.map fun x => Yo c x x.inn).flatten⟩⟩)
 | 0, i, _, h => by omega
 | n + 1, i, hi, hn => by
  simp only [Zo, Q9, Vh, Gb, hk, hel, List.length_map, Xr, List.getElem?_map]
  by_cases h : i < l.length
  ·have hft := Q45 (fun x => Yo c x x.inn) l i h
   have h1 := Qaz (fun x => Yo c x x.inn) l (i + 1)
   rw [← hft, List.length_append] at h1
   rw [if_pos (by omega), List.getElem?_eq_getElem h]
   simp only [Option.map_some, Option.bind_some, hR _ (List.getElem_mem h) _ (show (b ++ Vi ((l.take i).map fun x => Yo c x x.inn).flatten).length + (Yo c l[i] l[i].inn).length < 17592186030000 by rw [List.length_append, Uh]; omega)]
   rw [Qx _ (by omega), List.append_assoc, ← Vw, hft]
   exact_mod_cast Qte (N := N) hk hel hb hbl hR n (i + 1) (by omega) (by omega)
  ·rw [if_neg (by omega), List.take_of_length_le (by omega)]
theorem Qk8 {code : Int} (h : ofB code = true) (hi : (ofS code).Items = true) (hs : (ofS code).Sized = true) : ∃ w : Nat, (ofS code).Width = (w : Int) ∧ w ≤ 4 := by
 rcases ((Vq h hi).1 hs).1 with h | h
 ·exact ⟨1, h, by omega⟩
 ·exact ⟨4, h, by omega⟩
def WP (v : Q0) : Prop :=
  (∀ c, (ofB c = true ∧ (ofS c).Kind = v.Kind ∧ v.Kind ≠ 25 ∧ Q1h c v v.inn = true) → ∀ N, 2 * v.sz + 300999 ≤ N → ∀ b : List Int, b.length + (Yo c v v.inn).length < 17592186030000 → Y9 N ⟨⟨b⟩⟩ c v.frm = some ((), ⟨⟨b ++ Vi (Yo c v v.inn)⟩⟩)) ∧
  ∀ N, 2 * v.sz + 301000 ≤ N → ∀ b : List Int, b.length + v.byt.length < 17592186030000 → Z1 N ⟨⟨b⟩⟩ v.frm = some ((), ⟨⟨b ++ Vi v.byt⟩⟩)
theorem Qjs (v : Q0) : ∀ m : Int, Fine v → W0 v m = 0 → v.wgt < 4000000000 → v.sz < 1000000000 → WP v := by
 induction v using Q0.ind with
 | h v ih =>
  intro m hf hc hw hz
  have hs := v.sz_eq
  have hsl := Q0.szs_len v.Items
  obtain ⟨l1, l2, l3, l4⟩ := Q5t hw
  have htx := hf.text
  have hit : ∀ x ∈ v.Items, ∃ m', W0 x m' = 0 := fun x hx => by
   rcases Vo hc with ⟨k1, k2, k3⟩ | ⟨_, _, _, _, _, _, k7⟩
   ·rw [(Ud k3).2.2.2.1] at hx; cases hx
   ·exact ⟨_, (k7 x hx).1⟩
  have hsx : ∀ x ∈ v.Items, x.sz + 1 ≤ v.sz := fun x hx => by have := Q0.szs_mem _ x hx; omega
  have hI : ∀ x ∈ v.Items, WP x := fun x hx => by
   obtain ⟨m', hm⟩ := hit x hx
   exact ih x hx m' (hf.items x hx) hm (l4 x hx) (by have := hsx x hx; omega)
  have hP : ∀ c, (ofB c = true ∧ (ofS c).Kind = v.Kind ∧ v.Kind ≠ 25 ∧ Q1h c v v.inn = true) → ∀ N, 2 * v.sz + 300999 ≤ N → ∀ b : List Int, b.length + (Yo c v v.inn).length < 17592186030000 → Y9 N ⟨⟨b⟩⟩ c v.frm = some ((), ⟨⟨b ++ Vi (Yo c v v.inn)⟩⟩) := by
   rintro c ⟨c1, c2, c3, c4⟩ N hN b hb
   obtain ⟨N, rfl⟩ : ∃ N', N = N' + 1 := ⟨N - 1, by omega⟩
   show Zq (Z1 N) (Y9 N) N ⟨⟨b⟩⟩ c v.frm = _
   simp only [Zq, Qw, Qhr, Option.bind_some, Q9, V0, Gb, Q2k, List.length_map]
   have hd : Yo c v v.inn = if (ofS c).Items = false then (Qo2 c v).1 else if (ofS c).Sized = false then [] else Wr (v.inn.length + (ofS c).Width.toNat) (ofS c).Width.toNat ++ (Wr v.Items.length (ofS c).Width.toNat ++ v.inn) := rfl
   by_cases hi : (ofS c).Items = false
   ·rw [if_pos (by simp [hi]), Qrn N c v hf.num (by omega) (by omega) (by omega)]
    rw [if_pos hi] at hd
    rw [hd] at hb ⊢
    simp only [Option.bind_some]
    rw [Qld N b _ (by omega)]
    rfl
   ·have hi : (ofS c).Items = true := by simpa using hi
    rw [if_neg (by simp [hi])]
    rw [if_neg (by simp [hi])] at hd
    have hkk : 22 ≤ v.Kind ∧ v.Kind ≤ 24 := by
     have h1 := hi
     rw [(Qal c c1).items, c2] at h1
     have := Q2q hc
     simp at h1; omega
    by_cases hs' : (ofS c).Sized = true
    ·rw [if_pos hs']
     rw [if_neg (by simp [hs'])] at hd
     obtain ⟨w, hw1, hw2⟩ := Qk8 c1 hi hs'
     rw [hw1, Int.toNat_natCast] at hd
     rw [hd] at hb ⊢
     simp only [List.length_append, Za] at hb
     have hin : v.frm.inner = (v.inn.length : Int) := by rw [Q6b]; simp only [if_pos hkk]
     rw [hw1, hin, Qx _ (by omega), show ((w : Int) + (v.inn.length : Int)) = ((v.inn.length + w : Nat) : Int) by push_cast; omega,
      Q0e N b _ w (by omega) (by omega) (by omega) (by omega)]
     simp only [Option.bind_some]
     rw [Q0e N _ _ w (by omega) (by omega) (by omega) (by rw [List.length_append, Uh, Za]; omega)]
     simp only [Option.bind_some, c2]
     by_cases h4 : v.Kind = 24
     ·rw [if_pos h4]
      obtain ⟨e1, e2⟩ := Qit hf hc h4
      obtain ⟨d1, d2, d3⟩ := Q07 _ _ e1
      have hr := Q56 d1
      have hel : v.frm.element = v.elm := by rw [Q6b]; simp only [if_pos h4]
      have hin2 := Q61 v
      rw [if_pos h4] at hin2
      have hl2 := congrArg List.length hin2
      simp only [List.length_cons] at hl2
      rw [hel, show v.elm = ((v.elm.toNat : Nat) : Int) by omega, show (1 : Int) = ((1 : Nat) : Int) from rfl,
       Q0e N _ _ 1 (by omega) (by omega) (by omega) (by simp only [List.length_append, Uh, Za]; omega)]
      simp only [Option.bind_some]
      rw [Qr7 hr]
      rcases Vo hc with ⟨k1, k2, k3⟩ | ⟨k1, k2, k3, k4, k5, k6, k7⟩
      ·omega
      have hnn := (G0 k4).2.1 h4
      have := Qte (R := Y9 N) (N := N) (f := v.frm) (l := v.Items) (c := v.elm) (Q2k v) hel (by omega) (b := b ++ Vi (Wr (v.inn.length + w) w) ++ Vi (Wr v.Items.length w) ++ Vi [Q1t v.elm])
       (by simp only [List.length_append, Uh, Za, List.length_cons, List.length_nil]; omega)
       (fun x hx b' hb' => (hI x hx).1 v.elm ⟨d1, by
        have := (k7 x hx).2 h4
        rw [Q0h (k7 x hx).1] at this
        rw [d3, this], by
        have := (k7 x hx).2 h4
        rw [Q0h (k7 x hx).1] at this
        omega, e2 x hx⟩ N (by have := hsx x hx; omega) b' hb') N 0 (by omega) (by omega)
      simp only [List.take_zero, List.map_nil, List.flatten_nil, Vi, List.append_nil] at this
      have e : (b ++ Vi (Wr (v.inn.length + w) w) ++ Vi (Wr v.Items.length w) ++ Vi [Q1t v.elm] ++ Vi ((v.Items.map fun x => Yo v.elm x x.inn).flatten)) = b ++ Vi (Wr (v.inn.length + w) w ++ (Wr v.Items.length w ++ v.inn)) := by
       have hi3 : Vi v.inn = Vi [Q1t v.elm] ++ Vi ((v.Items.map fun x => Yo v.elm x x.inn).flatten) := by rw [← Vw]; exact congrArg Vi hin2
       rw [Vw, Vw, hi3]
       simp only [List.append_assoc]
      rw [← e]
      exact this
     ·rw [if_neg h4]
      have hin2 := Q61 v
      rw [if_neg h4, if_neg c3] at hin2
      have hl2 := congrArg List.length hin2
      have := (Qry (R := Z1 N) (N := N) (f := v.frm) (l := v.Items) (Q2k v) (by omega) (b := b ++ Vi (Wr (v.inn.length + w) w) ++ Vi (Wr v.Items.length w))
       (by simp only [List.length_append, Uh, Za]; omega)
       (fun x hx b' hb' => (hI x hx).2 N (by have := hsx x hx; omega) b' hb') N 0 (by omega) (by omega)).1
      simp only [List.take_zero, List.map_nil, List.flatten_nil, Vi, List.append_nil] at this
      have e : (b ++ Vi (Wr (v.inn.length + w) w) ++ Vi (Wr v.Items.length w) ++ Vi (v.Items.map Q0.byt).flatten) = b ++ Vi (Wr (v.inn.length + w) w ++ (Wr v.Items.length w ++ v.inn)) := by
       rw [Vw, Vw, ← hin2]
       simp only [List.append_assoc]
      rw [← e]
      exact this
    ·have hs' : (ofS c).Sized = false := by simpa using hs'
     rw [if_neg (by simp [hs'])]
     rw [if_pos hs'] at hd
     have hk := (Vq c1 hi).2 hs'
     unfold Q1h at c4
     rw [if_neg (by simp [hi]), if_pos (Qgo c1 hi hs')] at c4
     have hl0 : v.Items = [] := List.length_eq_zero_iff.1 (by simpa using c4)
     rw [hd, if_neg (by omega)]
     have := (Qry (R := Z1 N) (N := N) (f := v.frm) (l := v.Items) (Q2k v) (by omega) (b := b) (by rw [hl0]; simp; omega) (fun x hx => by rw [hl0] at hx; cases hx) N 0 (by omega) (by omega)).2
     rw [hl0] at this
     simpa [Vi] using this
  refine ⟨hP, fun N hN b hb => ?_⟩
  obtain ⟨N, rfl⟩ : ∃ N', N = N' + 1 := ⟨N - 1, by omega⟩
  show Ys (Z1 N) (Y9 N) N ⟨⟨b⟩⟩ v.frm = _
  simp only [Ys, Qaq N v m hf hc hw (by omega), Option.bind_some]
  have hbe := Qck v
  have hbl := congrArg List.length hbe
  by_cases h5 : v.Kind = 25
  ·rw [if_pos h5] at hbe hbl ⊢
   simp only [List.length_cons] at hbl
   have hn := Q0e N b 0 1 (by omega) (by omega) (by omega) (by omega)
   rw [show ((0 : Nat) : Int) = 0 from rfl, show ((1 : Nat) : Int) = 1 from rfl] at hn
   rw [hn]
   simp only [Option.bind_some]
   obtain ⟨N, rfl⟩ : ∃ N', N = N' + 1 := ⟨N - 1, by omega⟩
   show ((Zq (Z1 N) (Y9 N) N ⟨⟨b ++ Vi (Wr 0 1)⟩⟩ 0 v.frm).bind _) = _
   obtain ⟨o1, o2, o3⟩ := of0
   have o4 : (ofS 0).Sized = false := by decide +kernel
   simp only [Zq, Qw, Option.bind_some, Q9, V0]
   rw [if_neg (by simp [o3]), if_neg (by simp [o4]), if_neg (by omega)]
   have := (Qry (R := Z1 N) (N := N) (f := v.frm) (l := v.Items) (Q2k v) (by omega) (b := b ++ Vi (Wr 0 1))
    (by simp only [List.length_append, Uh, Za]; omega)
    (fun x hx b' hb' => (hI x hx).2 N (by have := hsx x hx; omega) b' hb') N 0 (by omega) (by omega)).2
   simp only [List.take_zero, List.map_nil, List.flatten_nil, Vi, List.append_nil] at this
   have h0 : (((0 : Nat) : Int)) = 0 := rfl
   rw [h0] at this
   simp only [Vi] at *
   rw [this]
   simp only [Option.bind_some]
   rw [hbe]
   simp [Wr]
  ·rw [if_neg h5] at hbe hbl ⊢
   simp only [List.length_cons] at hbl
   obtain ⟨g1, g2⟩ := Qfx hf hc h5
   obtain ⟨d1, d2, d3⟩ := Q07 _ _ g1
   have hr := Q56 d1
   have hn := Q0e N b v.cod.toNat 1 (by omega) (by omega) (by omega) (by omega)
   rw [Qr7 hr, show ((v.cod.toNat : Nat) : Int) = v.cod by omega, show ((1 : Nat) : Int) = 1 from rfl] at hn
   rw [hn]
   simp only [Option.bind_some]
   rw [hP v.cod ⟨d1, d3, h5, g2⟩ N (by omega) _ (by rw [List.length_append, Uh]; simp; omega)]
   simp only [Option.bind_some]
   rw [hbe]
   simp [Vi]
end
end Go.Av
namespace Go.Av
noncomputable section
open Go.Proofs
set_option maxRecDepth 100000
theorem Qet (v : Q0) : v.byt.length = 1 + (if v.Kind = 25 then (v.Items.map Q0.byt).flatten.length else (Yo v.cod v v.inn).length) := by
 rw [Qck]
 split <;> simp <;> omega
theorem Qfa {R : Qdk → Int → Option Int} {N : Nat} {f : Qdk} {l : List Q0} (hk : f.kids = l.map Q0.frm) (hb : l.length < 1000000000) (hl : (l.map Q0.byt).flatten.length < 1000000000000000000) (hN : 300100 ≤ N)
  (hv : ∀ x ∈ l, (∃ m, W0 x m = 0) ∧ Fine x ∧ x.wgt < 4000000000) (hR : ∀ x ∈ l, R x.frm (if x.Kind = 25 then 0 else x.cod) = some ((if x.Kind = 25 then (x.Items.map Q0.byt).flatten.length else (Yo x.cod x x.inn).length : Nat) : Int)) : ∀ (n i : Nat), i ≤ l.length → l.length - i < n →
  Zt R N f n (((l.take i).map Q0.byt).flatten.length : Nat) (i : Int) = some (((l.map Q0.byt).flatten.length : Nat) : Int)
 | 0, i, _, h => by omega
 | n + 1, i, hi, hn => by
  simp only [Zt, Q9, Vh, Gb, hk, List.length_map, Xr, List.getElem?_map]
  by_cases h : i < l.length
  ·have hft := Q45 Q0.byt l i h
   have h1 := Qaz Q0.byt l (i + 1)
   rw [← hft, List.length_append] at h1
   obtain ⟨⟨m, h2⟩, h3, h4⟩ := hv _ (List.getElem_mem h)
   rw [if_pos (by omega), List.getElem?_eq_getElem h]
   simp only [Option.map_some, Option.bind_some, Qaq N l[i] m h3 h2 h4 hN, hR _ (List.getElem_mem h)]
   have hbl := Qet l[i]
   have e : (((l.take i).map Q0.byt).flatten.length : Int) + IntKind.i64.wrap (1 + ((if l[i].Kind = 25 then (l[i].Items.map Q0.byt).flatten.length else (Yo l[i].cod l[i] l[i].inn).length : Nat) : Int)) = ((((l.take (i + 1)).map Q0.byt).flatten.length : Nat) : Int) := by
    rw [← hft, List.length_append, hbl]
    rw [Qx _ (by omega)]
    push_cast; rfl
   rw [e, Qx _ (by rw [← hft, List.length_append]; omega), Qx _ (by omega)]
   exact_mod_cast Qfa (N := N) hk hb hl hN hv hR n (i + 1) (by omega) (by omega)
  ·rw [if_neg (by omega), List.take_of_length_le (by omega)]
def FP (v : Q0) : Prop :=
 (∀ N, 2 * v.sz + 301000 ≤ N → ∀ c, (ofB c = true ∧ (ofS c).Kind = v.Kind ∧ v.Kind ≠ 25 ∧ Q1h c v v.inn = true) → Zi N v.frm c = some ((Yo c v v.inn).length : Int)) ∧
 (∀ N, 2 * v.sz + 301000 ≤ N → v.Kind = 25 → Zi N v.frm 0 = some ((v.Items.map Q0.byt).flatten.length : Int)) ∧
 ∀ N, 2 * v.sz + 300999 ≤ N → ∀ e i, Z9 N ⟨v, v.Items.map Q0.frm, e, i⟩ = some ((v.Items.map Q0.byt).flatten.length : Int)
theorem Qev (v : Q0) : ∀ m : Int, Fine v → W0 v m = 0 → v.wgt < 4000000000 → v.sz < 1000000000 → FP v := by
 induction v using Q0.ind with
 | h v ih =>
  intro m hf hc hw hz
  have hs := v.sz_eq
  have hsl := Q0.szs_len v.Items
  obtain ⟨l1, l2, l3, l4⟩ := Q5t hw
  have htx := hf.text
  have hit : ∀ x ∈ v.Items, ∃ m', W0 x m' = 0 := fun x hx => by
   rcases Vo hc with ⟨k1, k2, k3⟩ | ⟨_, _, _, _, _, _, k7⟩
   ·rw [(Ud k3).2.2.2.1] at hx; cases hx
   ·exact ⟨_, (k7 x hx).1⟩
  have hsx : ∀ x ∈ v.Items, x.sz + 1 ≤ v.sz := fun x hx => by have := Q0.szs_mem _ x hx; omega
  have hI : ∀ x ∈ v.Items, FP x := fun x hx => by
   obtain ⟨m', hm⟩ := hit x hx
   exact ih x hx m' (hf.items x hx) hm (l4 x hx) (by have := hsx x hx; omega)
  have hW : ∀ N, 2 * v.sz + 300999 ≤ N → ∀ e i, Z9 N ⟨v, v.Items.map Q0.frm, e, i⟩ = some ((v.Items.map Q0.byt).flatten.length : Int) := by
   intro N hN e i
   obtain ⟨N, rfl⟩ : ∃ N', N = N' + 1 := ⟨N - 1, by omega⟩
   have := Qfa (R := Zi N) (N := N) (f := ⟨v, v.Items.map Q0.frm, e, i⟩) (l := v.Items) rfl (by omega) l2 (by omega) (fun x hx => ⟨hit x hx, hf.items x hx, l4 x hx⟩) (fun x hx => by
    obtain ⟨p1, p2, _⟩ := hI x hx
    obtain ⟨m', hm⟩ := hit x hx
    have := hsx x hx
    by_cases h5 : x.Kind = 25
    ·rw [if_pos h5, if_pos h5]; exact p2 N (by omega) h5
    ·rw [if_neg h5, if_neg h5]
     obtain ⟨g1, g2⟩ := Qfx (hf.items x hx) hm h5
     obtain ⟨d1, d2, d3⟩ := Q07 _ _ g1
     exact p1 N (by omega) x.cod ⟨d1, d3, h5, g2⟩) N 0 (by omega) (by omega)
   exact this
  refine ⟨fun N hN c hcc => ?_, fun N hN h5 => ?_, hW⟩
  ·obtain ⟨c1, c2, c3, c4⟩ := hcc
   obtain ⟨N, rfl⟩ : ∃ N', N = N' + 1 := ⟨N - 1, by omega⟩
   show Y4 (Zi N) (Z9 N) N v.frm c = _
   simp only [Y4, Qw, Option.bind_some, Q9, V0, Qhr]
   rw [if_neg (by omega)]
   have hww := Qa8 c
   by_cases hi : (ofS c).Items = true
   ·rw [if_pos hi]
    have hkk : 22 ≤ v.Kind ∧ v.Kind ≤ 24 := by
     have h1 := hi
     rw [(Qal c c1).items, c2] at h1
     have := Q2q hc
     simp at h1; omega
    by_cases hs' : (ofS c).Sized = true
    ·rw [if_pos hs']
     have hin : v.frm.inner = (v.inn.length : Int) := by rw [Q6b]; simp only [if_pos hkk]
     have hd : (Yo c v v.inn).length = (ofS c).Width.toNat + ((ofS c).Width.toNat + v.inn.length) := by
      unfold Yo
      rw [if_neg (by simp [hi]), if_neg (by simp [hs'])]
      simp [Za]
     rw [hin, hd, Qx (2 * (ofS c).Width) (by omega), Qx _ (by omega)]
     congr 1
     omega
    ·have hs' : (ofS c).Sized = false := by simpa using hs'
     rw [if_neg (by simp [hs']), Qgo c1 hi hs']
     have hd : Yo c v v.inn = [] := by
      unfold Yo
      rw [if_neg (by simp [hi]), if_pos hs']
     rw [hd]; rfl
   ·have hi : (ofS c).Items = false := by simpa using hi
    rw [if_neg (by simp [hi])]
    have hf' : Q08 c v = true := by unfold Q1h at c4; rw [if_pos hi] at c4; exact c4
    have hd : Yo c v v.inn = Jd (ofS c) v := by unfold Yo; rw [if_pos hi, Qoa hf']
    have hl := Q2g hf'
    rw [hd, hl]
    by_cases hs' : (ofS c).Sized = true
    ·rw [if_pos hs', if_pos hs', Qx _ (by omega)]
     congr 1; push_cast; omega
    ·rw [if_neg hs', if_neg hs']
     congr 1; push_cast; omega
  ·obtain ⟨N, rfl⟩ : ∃ N', N = N' + 1 := ⟨N - 1, by omega⟩
   show Y4 (Zi N) (Z9 N) N v.frm 0 = _
   obtain ⟨o1, o2, o3⟩ := of0
   simp only [Y4, Qw, Option.bind_some, Q9, V0]
   rw [if_pos o2]
   rw [Q6b, hW N (by omega)]
   rfl
theorem Qgl {N : Nat} {f : Qdk} {l : List Q0} {c : Int} (hk : f.kids = l.map Q0.frm) (he : f.element = c) (hb : l.length < 1000000000) (hl : (l.map fun x => Yo c x x.inn).flatten.length < 1000000000000000000)
  (hR : ∀ x ∈ l, Zi N x.frm c = some ((Yo c x x.inn).length : Int)) : ∀ (n i : Nat), i ≤ l.length → l.length - i < n →
  Zu N f n ((1 + ((l.take i).map fun x => Yo c x x.inn).flatten.length : Nat) : Int) (i : Int) = some ((1 + (l.map fun x => Yo c x x.inn).flatten.length : Nat) : Int)
 | 0, i, _, h => by omega
 | n + 1, i, hi, hn => by
  simp only [Zu, Q9, Vh, Gb, hk, he, List.length_map, Xr, List.getElem?_map]
  by_cases h : i < l.length
  ·have hft := Q45 (fun x => Yo c x x.inn) l i h
   have h1 := Qaz (fun x => Yo c x x.inn) l (i + 1)
   rw [← hft, List.length_append] at h1
   rw [if_pos (by omega), List.getElem?_eq_getElem h]
   simp only [Option.map_some, Option.bind_some, hR _ (List.getElem_mem h)]
   have e : ((1 + ((l.take i).map fun x => Yo c x x.inn).flatten.length : Nat) : Int) + ((Yo c l[i] l[i].inn).length : Int) = ((1 + ((l.take (i + 1)).map fun x => Yo c x x.inn).flatten.length : Nat) : Int) := by
    rw [← hft, List.length_append]
    push_cast; omega
   rw [e, Qx _ (by rw [← hft, List.length_append]; omega), Qx _ (by omega)]
   exact_mod_cast Qgl (N := N) hk he hb hl hR n (i + 1) (by omega) (by omega)
  ·rw [if_neg (by omega), List.take_of_length_le (by omega)]
theorem Qdp {R : Q0 → Option Qdk} {N : Nat} {v : Q0} {m : Int} (hf : Fine v) (hc : W0 v m = 0) (hw : v.wgt < 4000000000) (hz : v.sz < 1000000000) (hN : 2 * v.sz + 301000 ≤ N) (hR : ∀ x ∈ v.Items, R x = some x.frm) : ∀ (n i : Nat), i ≤ v.Items.length → v.Items.length - i < n →
  Yx R N v n (i : Int) ((v.Items.take i).map Q0.frm) = some v.frm
 | 0, i, _, h => by omega
 | n + 1, i, hi, hn => by
  have hs := v.sz_eq
  have hsl := Q0.szs_len v.Items
  simp only [Yx, Q9, Vh, V0, Zx, Xr]
  by_cases h : i < v.Items.length
  ·rw [if_pos (by omega), List.getElem?_eq_getElem h]
   simp only [Option.bind_some, hR _ (List.getElem_mem h)]
   rw [if_pos (by rw [Nat.ble_eq, List.length_map, List.length_take]; omega), Qx _ (by omega)]
   have e : (v.Items.take i).map Q0.frm ++ [v.Items[i].frm] = (v.Items.take (i + 1)).map Q0.frm := by
    rw [List.take_succ_eq_append_getElem h, List.map_append]; rfl
   rw [e]
   exact_mod_cast Qdp hf hc hw hz hN hR n (i + 1) (by omega) (by omega)
  ·rw [if_neg (by omega), List.take_of_length_le (by omega)]
   obtain ⟨l1, l2, l3, l4⟩ := Q5t hw
   obtain ⟨_, _, hW⟩ := Qev v m hf hc hw hz
   have hfe := Q6b v
   by_cases h4 : v.Kind = 24
   ·rcases Vo hc with ⟨k1, k2, k3⟩ | ⟨k1, k2, k3, k4, k5, k6, k7⟩
    ·omega
    have hnn := (G0 k4).2.1 h4
    rw [if_pos h4, Qx _ (by omega), Qcr N v.N' v.Items (by omega) (by omega) (by omega) (by omega) (fun x hx => by
     have f1 := hf.items x hx
     have f2 := f1.text
     have f3 := (Q5t (l4 x hx)).1
     have := (k7 x hx).2 h4
     rw [Q0h (k7 x hx).1] at this
     exact ⟨this, by omega, f1.num, by omega, by omega, f3⟩)]
    have hel : Q1a v.N' (v.Items.map fun x => (x, x.inn)) = v.elm := rfl
    obtain ⟨e1, e2⟩ := Qit hf hc h4
    obtain ⟨d1, d2, d3⟩ := Q07 _ _ e1
    have := Qgl (N := N) (f := ⟨v, v.Items.map Q0.frm, v.elm, 0⟩) (l := v.Items) (c := v.elm) rfl rfl (by omega) (l3 v.elm) (fun x hx => by
     have := (k7 x hx).2 h4
     rw [Q0h (k7 x hx).1] at this
     exact (Qev x _ (hf.items x hx) (k7 x hx).1 (l4 x hx) (by have := Q0.szs_mem _ x hx; omega)).1 N (by have := Q0.szs_mem _ x hx; omega) v.elm ⟨d1, by rw [d3, this], by omega, e2 x hx⟩) N 0 (by omega) (by omega)
    have hal : Xa N ⟨v, v.Items.map Q0.frm, v.elm, 0⟩ = some (v.inn.length : Int) := by
     have hin := Q61 v
     rw [if_pos h4] at hin
     have hil : v.inn.length = 1 + (v.Items.map fun x => Yo v.elm x x.inn).flatten.length := by rw [hin]; simp; omega
     rw [hil]; exact this
    simp only [Option.bind_some, hel, h4, hal]
    rw [if_neg (by decide), if_neg (by decide), if_pos (by decide), hfe]
    simp only [h4]
    rfl
   ·rw [if_neg h4]
    by_cases h2 : v.Kind = 22
    ·rw [if_pos (by simp [h2]), hW N (by omega), hfe]
     have hin := Q61 v
     rw [if_neg h4, if_neg (by omega)] at hin
     rw [hin]
     simp only [Option.bind_some, h2]
     rfl
    ·rw [if_neg (by simpa using h2)]
     by_cases h3 : v.Kind = 23
     ·rw [if_pos (by simp [h3]), hW N (by omega), hfe]
      have hin := Q61 v
      rw [if_neg h4, if_neg (by omega)] at hin
      rw [hin]
      simp only [Option.bind_some, h3]
      rfl
     ·rw [if_neg (by simpa using h3), if_neg (by simpa using h4), hfe, if_neg h4, if_neg (by omega)]
theorem Q8o : ∀ (N : Nat) (v : Q0) (m : Int), Fine v → W0 v m = 0 → v.wgt < 4000000000 → v.sz < 1000000000 → 3 * v.sz + 301000 < N → X6 N v = some v.frm
 | 0, v, _, _, _, _, _, h => by omega
 | N + 1, v, m, hf, hc, hw, hz, hN => by
  have hs := v.sz_eq
  have hsl := Q0.szs_len v.Items
  obtain ⟨l1, l2, l3, l4⟩ := Q5t hw
  have := Qdp (R := X6 N) (N := N) hf hc hw hz (by omega) (fun x hx => by
   have h1 := Q0.szs_mem _ x hx
   have h2 : ∃ m', W0 x m' = 0 := by
    rcases Vo hc with ⟨k1, k2, k3⟩ | ⟨_, _, _, _, _, _, k7⟩
    ·rw [(Ud k3).2.2.2.1] at hx; cases hx
    ·exact ⟨_, (k7 x hx).1⟩
   obtain ⟨m', hm⟩ := h2
   exact Q8o N x m' (hf.items x hx) hm (l4 x hx) (by omega) (by omega)) N 0 (by omega) (by omega)
  exact this
theorem Q79 {v : Q0} {m : Int} (h : U1 v m = 0) : W0 v m = 0 ∧ 0 ≤ m ∧ m ≤ 32 := by
 unfold U1 at h
 split at h
 ·cases h
 ·rename_i hr
  unfold Q7s at hr
  simp at hr
  exact ⟨h, hr.1, hr.2⟩
theorem Qdg (s : List UInt8) : (Vi s).map (fun n => UInt8.ofNat n.toNat) = s := by
 unfold Vi
 rw [List.map_map]
 conv => rhs; rw [← List.map_id s]
 apply List.map_congr_left
 intro b _
 simp
theorem Qnk (N : Nat) (v : Q0) (m : Int) (hf : Fine v) (hw : v.wgt < 4000000000) (hz : v.sz < 1000000000) (hN : 3 * v.sz + 302000 ≤ N) : Vc N v m = some (if U1 v m ≠ 0 then ([], U1 v m) else (v.nrm.byt, 0)) := by
 simp only [Vc, Q88 N v m hf (by omega) hz, Option.bind_some, Q9, U8]
 by_cases h : U1 v m = 0
 ·obtain ⟨hc, _⟩ := Q79 h
  have hnf := Qb7 hf
  have hnc := Q78 v m hc
  have hnw : v.nrm.wgt < 4000000000 := by rw [Qar]; exact hw
  have hnz : v.nrm.sz < 1000000000 := by rw [Q5x]; exact hz
  have hl := (Q3i v.nrm).2.1
  rw [if_neg (by simp [h]), if_neg (by simp [h]), Qbg N v (by omega) hz]
  simp only [Option.bind_some]
  rw [Q8o N v.nrm m hnf hnc hnw hnz (by rw [Q5x]; omega)]
  simp only [Option.bind_some]
  rw [(Qjs v.nrm m hnf hnc hnw hnz).2 N (by rw [Q5x]; omega) [] (by simp; omega)]
  simp only [Option.bind_some, Xh, List.nil_append, Qdg]
 ·rw [if_pos h, if_pos h]
theorem Qoq (N : Nat) (v : Q0) (m : Int) (hf : Fine v) (hw : v.wgt < 4000000000) (hz : v.sz < 1000000000) (hN : 3 * v.sz + 302000 ≤ N) : Vs N v m = some (if U1 v m ≠ 0 then (0, U1 v m) else ((v.nrm.byt.length : Int), 0)) := by
 simp only [Vs, Q88 N v m hf (by omega) hz, Option.bind_some, Q9, U8]
 by_cases h : U1 v m = 0
 ·obtain ⟨hc, _⟩ := Q79 h
  have hnf := Qb7 hf
  have hnc := Q78 v m hc
  have hnw : v.nrm.wgt < 4000000000 := by rw [Qar]; exact hw
  have hnz : v.nrm.sz < 1000000000 := by rw [Q5x]; exact hz
  have hl := (Q3i v.nrm).2.1
  have hbl := Qet v.nrm
  rw [if_neg (by simp [h]), if_neg (by simp [h]), Qbg N v (by omega) hz]
  simp only [Option.bind_some]
  rw [Q8o N v.nrm m hnf hnc hnw hnz (by rw [Q5x]; omega)]
  simp only [Option.bind_some]
  rw [Qaq N v.nrm m hnf hnc hnw (by omega)]
  simp only [Option.bind_some]
  obtain ⟨p1, p2, _⟩ := Qev v.nrm m hnf hnc hnw hnz
  by_cases h5 : v.nrm.Kind = 25
  ·rw [if_pos h5] at hbl ⊢
   rw [p2 N (by rw [Q5x]; omega) h5]
   simp only [Option.bind_some]
   rw [Qx _ (by omega), hbl]; push_cast; rfl
  ·rw [if_neg h5] at hbl ⊢
   obtain ⟨g1, g2⟩ := Qfx hnf hnc h5
   obtain ⟨d1, d2, d3⟩ := Q07 _ _ g1
   rw [p1 N (by rw [Q5x]; omega) _ ⟨d1, d3, h5, g2⟩]
   simp only [Option.bind_some]
   rw [Qx _ (by omega), hbl]; push_cast; rfl
 ·rw [if_pos h, if_pos h]
end
end Go.Av
namespace Go.Av
noncomputable section
open Go.Proofs
set_option maxRecDepth 100000
theorem Qp0 (v : Q0) (h : v.txt) : v.wgt ≤ 430 * v.sz := by
 induction v using Q0.ind with
 | h v ih =>
  rw [Q0.txt_eq] at h
  have hl : ∀ l : List Q0, (∀ x ∈ l, x.wgt ≤ 430 * x.sz) → Q0.wgts l ≤ 430 * Q0.szs l := by
   intro l
   induction l with
   | nil => intro _; simp [Q0.wgts]
   | cons x l ihl =>
    intro h
    have h1 := h x (.head _)
    have h2 := ihl (fun y hy => h y (.tail _ hy))
    simp only [Q0.wgts, Q0.szs]; omega
  have := hl v.Items (fun x hx => ih x hx (Qa5 _ h.2 x hx))
  rw [v.wgt_eq, v.sz_eq]; omega
end
end Go.Av
namespace Go.Av
noncomputable section
open Go.Proofs
set_option maxRecDepth 100000
end
end Go.Av
namespace Go.Av
noncomputable section
open Go.Proofs
set_option maxRecDepth 100000
end
end Go.Av
namespace Go.Av
noncomputable section
open Go.Proofs
set_option maxRecDepth 100000
def Q2z (l : Z7) : Bool := decide (16 ≤ l.MaxPacket ∧ l.MaxPacket ≤ 1048576 ∧ 0 ≤ l.MaxDepth ∧ l.MaxDepth ≤ 32)
def Qlj (f : Qj) : Bool := decide (0 ≤ f.Channel ∧ f.Channel ≤ 65535 ∧ f.Ext.length ≤ 1012 ∧ f.Ext.length % 4 = 0)
noncomputable def Qmb (m : Int) : List Q0 → Int
 | [] => 0
 | x :: l => if U1 x m ≠ 0 then U1 x m else Qmb m l
def W2 (l : List Q0) : List UInt8 := (l.map fun x => x.nrm.byt).flatten
def Q6r (f : Qj) : Nat := 8 + f.Ext.length + (W2 f.Values).length
noncomputable def Q1b (f : Qj) (l : Z7) : Int :=
 if Q2z l = false then 2 else if ¬ (f.Type' = 0 ∨ f.Type' = 1) then 8 else if Qlj f = false then 2 else if 1000 < f.Values.length then 4
 else if Qmb l.MaxDepth f.Values ≠ 0 then Qmb l.MaxDepth f.Values else if l.MaxPacket < (Q6r f : Int) then 4 else 0
def Q4o (f : Qj) : List UInt8 := [Q1t (2 + f.Ext.length / 4 : Nat), Q1t f.Type'] ++ Wr f.Channel.toNat 2 ++ f.Ext
def Q3f (f : Qj) : List UInt8 := Wr (Q6r f) 4 ++ (Q4o f ++ W2 f.Values)
structure FB (f : Qj) : Prop where
 fine : ∀ x ∈ f.Values, Fine x
 sz : Q0.szs f.Values < 160000000
 wgt : Q0.wgts f.Values < 4000000000
theorem FB.one {f : Qj} (h : FB f) : ∀ x ∈ f.Values, Fine x ∧ x.sz < 160000000 ∧ x.wgt < 4000000000 := fun x hx => by
 have h1 := Q0.szs_mem _ x hx
 have h2 := Q4c _ x hx
 have h3 := h.sz
 have h4 := h.wgt
 exact ⟨h.fine x hx, by omega, by omega⟩
theorem FB.len {f : Qj} (h : FB f) : f.Values.length < 160000000 := by
 have h1 := Q0.szs_len f.Values
 have h2 := h.sz
 omega
theorem Q7x (l : List Q0) : (W2 l).length ≤ Q0.wgts l := by
 unfold W2
 induction l with
 | nil => simp
 | cons x l ih =>
  have h1 := (Q3i x.nrm).2.1
  rw [Qar] at h1
  simp only [List.map_cons, List.flatten_cons, List.length_append, Q0.wgts]; omega
theorem Qd2 (l m : List Q0) : W2 (l ++ m) = W2 l ++ W2 m := by simp [W2]
theorem Qiu (x : Q0) : W2 [x] = x.nrm.byt := by simp [W2]
theorem Q9v (l : List Q0) (i : Nat) (h : i < l.length) : W2 (l.take i) ++ l[i].nrm.byt = W2 (l.take (i + 1)) := by
 rw [List.take_succ_eq_append_getElem h, Qd2, Qiu]
theorem Qfy (l : List Q0) (i : Nat) : (W2 (l.take i)).length ≤ (W2 l).length := by
 conv => rhs; rw [← List.take_append_drop i l, Qd2, List.length_append]
 omega
theorem Q9r (N : Nat) (l : Z7) : Wh N l = some (Q2z l) := by
 unfold Wh Q2z
 simp only [Q9, Qek, Q54]
 repeat' split
 all_goals (congr 1; symm)
 ·rw [Bool.eq_iff_iff]; simp only [decide_eq_true_eq, Q54]; omega
 all_goals (rw [decide_eq_false_iff_not]; omega)
theorem Qg8 (N : Nat) (n : Int) : Wi N n = some (decide (n = 0 ∨ n = 1)) := by
 unfold Wi
 simp only [Q9, V0]
 split
 ·rename_i h; simp [h]
 ·rename_i h
  congr 1
  rw [Bool.eq_iff_iff, V0]; simp [h]
theorem Qdj {m : Int} : ∀ {l : List Q0}, Qmb m l = 0 → ∀ x ∈ l, U1 x m = 0
 | y :: l, h, x, hx => by
  rw [Qmb] at h
  split at h
  ·rename_i h1; exact absurd h h1
  ·rename_i h1
   rcases List.mem_cons.1 hx with rfl | hx
   ·exact Classical.byContradiction h1
   ·exact Qdj h x hx
theorem Q9p {N : Nat} (hN : N = 800000000) {f : Qj} {l : Z7} (hf : FB f) (he : f.Ext.length ≤ 1012) (hv : ∀ x ∈ f.Values, U1 x l.MaxDepth = 0) : ∀ (n i : Nat), i ≤ f.Values.length → f.Values.length - i < n →
  X2 N f l n ((8 + f.Ext.length + (W2 (f.Values.take i)).length : Nat) : Int) (i : Int) = some (if l.MaxPacket < (Q6r f : Int) then 4 else 0)
 | 0, i, _, h => by omega
 | n + 1, i, hi, hn => by
  simp only [X2, Q9, Vh, Q2u, Zx, Xr]
  have hbl := Q7x f.Values
  have hw := hf.wgt
  have hfl := hf.len
  by_cases h : i < f.Values.length
  ·have hx := List.getElem_mem h
   obtain ⟨h1, h2, h3⟩ := hf.one _ hx
   have ht := Q9v f.Values i h
   have hle := Qfy f.Values (i + 1)
   rw [← ht, List.length_append] at hle
   rw [if_pos (by omega), List.getElem?_eq_getElem h]
   simp only [Option.bind_some]
   rw [Qoq N _ _ h1 h3 (by omega) (by omega), if_neg (show ¬ (U1 f.Values[i] l.MaxDepth ≠ 0) by simp [hv _ hx])]
   simp only [Option.bind_some]
   rw [Qx _ (by omega), Qx _ (by omega), show ((8 + f.Ext.length + (W2 (f.Values.take i)).length : Nat) : Int) + (f.Values[i].nrm.byt.length : Int) = ((8 + f.Ext.length + (W2 (f.Values.take (i + 1))).length : Nat) : Int) by rw [← ht, List.length_append]; omega]
   exact_mod_cast Q9p hN hf he hv n (i + 1) (by omega) (by omega)
  ·rw [if_neg (by omega), List.take_of_length_le (by omega)]
   unfold Q6r
   split
   ·rfl
   ·rfl
theorem Q9l {N : Nat} (hN : N = 800000000) {f : Qj} {l : Z7} (hf : FB f) (he : f.Ext.length ≤ 1012) : ∀ (n i : Nat), i ≤ f.Values.length → f.Values.length - i < n → (∀ x ∈ f.Values.take i, U1 x l.MaxDepth = 0) →
  X4 N f l n (i : Int) = some (if Qmb l.MaxDepth (f.Values.drop i) ≠ 0 then Qmb l.MaxDepth (f.Values.drop i) else if l.MaxPacket < (Q6r f : Int) then 4 else 0)
 | 0, i, _, h, _ => by omega
 | n + 1, i, hi, hn, hv => by
  simp only [X4, Q9, Vh, U8, Zx, Xr]
  have hfl := hf.len
  by_cases h : i < f.Values.length
  ·have hx := List.getElem_mem h
   obtain ⟨h1, h2, h3⟩ := hf.one _ hx
   rw [if_pos (by omega), List.getElem?_eq_getElem h]
   simp only [Option.bind_some]
   rw [Q88 N _ _ h1 (by omega) (by omega)]
   simp only [Option.bind_some]
   rw [List.drop_eq_getElem_cons h]
   by_cases hc : U1 f.Values[i] l.MaxDepth = 0
   ·rw [if_neg (by simp [hc]), Qmb, if_neg (show ¬ (U1 f.Values[i] l.MaxDepth ≠ 0) by simp [hc]), Qx _ (by omega)]
    exact_mod_cast Q9l hN hf he n (i + 1) (by omega) (by omega) (fun x hx => by
     rw [List.take_succ_eq_append_getElem h] at hx
     rcases List.mem_append.1 hx with hx | hx
     ·exact hv x hx
     ·have : x = f.Values[i] := by simpa using hx
      subst this; exact hc)
   ·rw [if_pos hc, Qmb, if_pos (show U1 f.Values[i] l.MaxDepth ≠ 0 from hc), if_pos hc]
  ·rw [if_neg (by omega), List.drop_of_length_le (by omega)]
   rw [List.take_of_length_le (by omega)] at hv
   have := Q9p hN (l := l) hf he hv N 0 (by omega) (by omega)
   simp only [List.take_zero] at this
   rw [Qx _ (by omega), show (8 + (f.Ext.length : Int)) = ((8 + f.Ext.length + (W2 ([] : List Q0)).length : Nat) : Int) by simp [W2], show (0 : Int) = ((0 : Nat) : Int) from rfl, this]
   rfl
theorem Qsa (n : Nat) : ((n : Int)).tmod 4 = ((n % 4 : Nat) : Int) := by
 rw [Int.tmod_eq_emod_of_nonneg (by omega)]; omega
theorem Q9m {N : Nat} (hN : N = 800000000) (f : Qj) (l : Z7) (hf : FB f) : Wl N f l = some (Q1b f l) := by
 simp only [Wl, Q9r, Qg8, Option.bind_some, Q9, Vh, Q2u, U8, Zx, Qsa, Q1b]
 cases hr : Q2z l with
 | false => rfl
 | true =>
  simp only [Bool.not_true, Bool.false_eq_true, if_false, Bool.true_eq_false]
  by_cases ht : f.Type' = 0 ∨ f.Type' = 1
  ·rw [decide_eq_true ht]
   simp only [Bool.not_true, Bool.false_eq_true, if_false, ht, not_true_eq_false]
   cases ho : Qlj f with
   | false =>
    simp only [if_true]
    unfold Qlj at ho
    rw [decide_eq_false_iff_not] at ho
    repeat' split
    all_goals first | rfl | (exfalso; apply ho; omega)
   | true =>
    unfold Qlj at ho
    rw [decide_eq_true_eq] at ho
    simp only [Bool.true_eq_false, if_false]
    rw [if_neg (by omega), if_neg (by omega), if_neg (by omega), if_neg (by omega)]
    by_cases h1 : 1000 < f.Values.length
    ·rw [if_pos (by omega), if_pos h1]
    ·rw [if_neg (by omega), if_neg h1]
     have := Q9l hN (l := l) hf ho.2.2.1 N 0 (by omega) (by have := hf.len; omega) (by simp)
     rw [List.drop_zero] at this
     exact this
  ·rw [decide_eq_false ht]
   simp only [Bool.not_false, if_true, ht, not_false_eq_true]
theorem Q3t {f : Qj} {l : Z7} (h : Q1b f l = 0) : Q2z l = true ∧ (f.Type' = 0 ∨ f.Type' = 1) ∧ Qlj f = true ∧ f.Values.length ≤ 1000 ∧ (∀ x ∈ f.Values, U1 x l.MaxDepth = 0) ∧ (Q6r f : Int) ≤ l.MaxPacket := by
 unfold Q1b at h
 split at h
 ·cases h
 rename_i h1
 split at h
 ·cases h
 rename_i h2
 split at h
 ·cases h
 rename_i h3
 split at h
 ·cases h
 rename_i h4
 split at h
 ·rename_i h5; exact absurd h h5
 rename_i h5
 split at h
 ·cases h
 rename_i h6
 exact ⟨by simpa using h1, Classical.byContradiction h2, by simpa using h3, by omega, Qdj (Classical.byContradiction h5), by omega⟩
theorem Qgr {f : Qj} (h : Qlj f = true) : 0 ≤ f.Channel ∧ f.Channel ≤ 65535 ∧ f.Ext.length ≤ 1012 ∧ f.Ext.length % 4 = 0 := by simpa [Qlj] using h
theorem Qf5 (n : Nat) : Wr n 1 = [UInt8.ofNat (n % 256)] := by
 rw [Q2j]
 simp [Wr]
theorem Qix (s : List UInt8) : (s.map fun b => (b.toNat : Int)) = Vi s := rfl
theorem Qcs (n : Nat) : UInt8.ofNat (n % 256) = UInt8.ofNat n := by
 apply UInt8.toNat_inj.1
 rw [UInt8.toNat_ofNat', UInt8.toNat_ofNat']
 omega
theorem Qnh {N : Nat} (hN : N = 800000000) (f : Qj) (ht : f.Type' = 0 ∨ f.Type' = 1) (ho : Qlj f = true) : X1 N ⟨⟨[]⟩, f⟩ = some ((), ⟨⟨Vi (Wr 0 4 ++ Q4o f)⟩, f⟩) := by
 obtain ⟨o1, o2, o3, o4⟩ := Qgr ho
 have p0 := Q1v N 0 4 (by omega) (by omega) (by omega)
 have p1 := Q1v N (2 + f.Ext.length / 4) 1 (by omega) (by omega) (by omega)
 have p2 := Q1v N f.Type'.toNat 1 (by omega) (by omega) (by omega)
 have p3 := Q1v N f.Channel.toNat 2 (by omega) (by omega) (by omega)
 have e0 : IntKind.u64.wrap 0 = ((0 : Nat) : Int) := rfl
 have e1 : IntKind.u64.wrap (IntKind.i64.wrap (2 + IntKind.i64.wrap (((f.Ext.length : Int)).tdiv 4))) = ((2 + f.Ext.length / 4 : Nat) : Int) := by
  have : ((f.Ext.length : Int)).tdiv 4 = ((f.Ext.length / 4 : Nat) : Int) := by
   rw [Int.tdiv_eq_ediv_of_nonneg (by omega)]; omega
  rw [this, Qx ((f.Ext.length / 4 : Nat) : Int) (by omega), Qx _ (by omega), show (2 + ((f.Ext.length / 4 : Nat) : Int)) = ((2 + f.Ext.length / 4 : Nat) : Int) by push_cast; rfl, V5 _ (by omega)]
 have e2 : IntKind.u64.wrap f.Type' = ((f.Type'.toNat : Nat) : Int) := by
  have h : ((f.Type'.toNat : Nat) : Int) = f.Type' := by omega
  have h2 := V5 f.Type'.toNat (by omega)
  rw [h] at h2 ⊢; exact h2
 have e3 : IntKind.u64.wrap f.Channel = ((f.Channel.toNat : Nat) : Int) := by
  have h : ((f.Channel.toNat : Nat) : Int) = f.Channel := by omega
  have h2 := V5 f.Channel.toNat (by omega)
  rw [h] at h2 ⊢; exact h2
 rw [show ((4 : Nat) : Int) = 4 from rfl] at p0
 rw [show ((1 : Nat) : Int) = 1 from rfl] at p1 p2
 rw [show ((2 : Nat) : Int) = 2 from rfl] at p3
 simp only [X1, e0, e1, e2, e3, p0, p1, p2, p3, Option.bind_some, Q9, Za, Qix, List.nil_append, List.length_nil]
 have hb1 : Q1t ((2 + f.Ext.length / 4 : Nat) : Int) = UInt8.ofNat (2 + f.Ext.length / 4) := rfl
 have hb2 : Q1t f.Type' = UInt8.ofNat f.Type'.toNat := rfl
 have hh : Vi (Wr 0 4) ++ Vi (Wr (2 + f.Ext.length / 4) 1) ++ Vi (Wr f.Type'.toNat 1) ++ Vi (Wr f.Channel.toNat 2) ++ Vi f.Ext = Vi (Wr 0 4 ++ Q4o f) := by
  rw [← Vw, ← Vw, ← Vw, ← Vw]
  congr 1
  unfold Q4o
  rw [Qf5, Qf5, Qcs, Qcs, hb1, hb2]
  simp
 rw [if_pos (by decide), if_pos (by decide), if_pos (by decide), if_pos (by decide), if_pos (by decide), if_pos (by decide), if_pos (by decide), if_pos (by decide)]
 by_cases h0 : f.Ext.length = 0
 ·rw [if_pos (by simp [h0])]
  have : f.Ext = [] := List.length_eq_zero_iff.1 h0
  rw [← hh, this]
  simp [Vi]
 ·rw [if_neg (by simp [h0]), if_pos (by rw [Nat.ble_eq]; omega), hh]
theorem Qnc {N : Nat} (hN : N = 800000000) (b : List UInt8) (f : Qj) (h : 4 ≤ b.length) (hb : b.length < 9223372036854775808) : X0 N ⟨⟨Vi b⟩, f⟩ = some ((), ⟨⟨Vi (Wr b.length 4 ++ b.drop 4)⟩, f⟩) := by
 have p0 := Q1v N b.length 4 (by omega) (by omega) (by omega)
 rw [show ((4 : Nat) : Int) = 4 from rfl] at p0
 simp only [X0, Uh]
 rw [V5 _ (by omega), p0]
 simp only [Option.bind_some, Q9, Qix]
 rw [if_pos (by rw [Nat.ble_eq]; omega)]
 have h1 : (Vi (Wr b.length 4)).take b.length = Vi (Wr b.length 4) := List.take_of_length_le (by rw [Uh, Za]; omega)
 rw [h1, Uh, Za]
 have h2 : (Vi b).drop 4 = Vi (b.drop 4) := by unfold Vi; rw [List.map_drop]
 rw [h2, ← Vw]
theorem Qdh {f : Qj} : (Q4o f).length = 4 + f.Ext.length := by
 unfold Q4o; simp [Za]; omega
theorem Q9w {N : Nat} (hN : N = 800000000) {f : Qj} {l : Z7} {u : Unit × Zl} (hf : FB f) (ho : Qlj f = true) (hu : u.2.f = f) (hv : ∀ x ∈ f.Values, U1 x l.MaxDepth = 0) : ∀ (n i : Nat), i ≤ f.Values.length → f.Values.length - i < n →
  Ye N f l u n (i : Int) (Vi (Wr 0 4 ++ (Q4o f ++ W2 (f.Values.take i)))) = some (Q3f f, 0)
 | 0, i, _, h => by omega
 | n + 1, i, hi, hn => by
  obtain ⟨o1, o2, o3, o4⟩ := Qgr ho
  simp only [Ye, Q9, Vh, Zx, Xr]
  have hbl := Q7x f.Values
  have hw := hf.wgt
  have hfl := hf.len
  have hhl := @Qdh f
  by_cases h : i < f.Values.length
  ·have hx := List.getElem_mem h
   obtain ⟨h1, h2, h3⟩ := hf.one _ hx
   have ht := Q9v f.Values i h
   have hle := Qfy f.Values (i + 1)
   rw [← ht, List.length_append] at hle
   rw [if_pos (by omega), List.getElem?_eq_getElem h]
   simp only [Option.bind_some]
   rw [Qnk N _ _ h1 h3 (by omega) (by omega), if_neg (show ¬ (U1 f.Values[i] l.MaxDepth ≠ 0) by simp [hv _ hx])]
   simp only [Option.bind_some, Qix]
   have ih := Q9w hN (u := u) hf ho hu hv n (i + 1) (by omega) (by omega)
   have e : Vi (Wr 0 4 ++ (Q4o f ++ W2 (f.Values.take i))) ++ Vi f.Values[i].nrm.byt = Vi (Wr 0 4 ++ (Q4o f ++ W2 (f.Values.take (i + 1)))) := by
    rw [← Vw, ← ht]; simp
   rw [Qx _ (by omega)]
   by_cases h0 : f.Values[i].nrm.byt.length = 0
   ·rw [if_pos (by simp [h0])]
    have : f.Values[i].nrm.byt = [] := List.length_eq_zero_iff.1 h0
    rw [this] at e
    have e' : Vi (Wr 0 4 ++ (Q4o f ++ W2 (f.Values.take i))) = Vi (Wr 0 4 ++ (Q4o f ++ W2 (f.Values.take (i + 1)))) := by rw [← e]; simp [Vi]
    rw [e']
    exact_mod_cast ih
   ·rw [if_neg (by simp [h0]), if_pos (by rw [Nat.ble_eq, Uh]; simp only [List.length_append, Za]; omega), e]
    exact_mod_cast ih
  ·rw [if_neg (by omega), List.take_of_length_le (by omega), hu, Qnc hN _ f (by simp [Za]) (by simp only [List.length_append, Za]; omega)]
   simp only [Option.bind_some, Qdg]
   have hlen : (Wr 0 4 ++ (Q4o f ++ W2 f.Values)).length = Q6r f := by
    unfold Q6r; simp only [List.length_append, Za]; omega
   rw [hlen, List.drop_left' (Za 4 0)]
   rfl
theorem Qh3 {N : Nat} (hN : N = 800000000) (f : Qj) (l : Z7) (hf : FB f) : Wj N f l = some (if Q1b f l ≠ 0 then ([], Q1b f l) else (Q3f f, 0)) := by
 simp only [Wj, Q9m hN f l hf, Option.bind_some, Q9, U8]
 by_cases h : Q1b f l = 0
 ·obtain ⟨c1, c2, c3, c4, c5, c6⟩ := Q3t h
  rw [if_neg (by simp [h]), if_neg (by simp [h]), Qnh hN f c2 c3]
  simp only [Option.bind_some]
  have := Q9w hN (l := l) (u := ((), ⟨⟨Vi (Wr 0 4 ++ Q4o f)⟩, f⟩)) hf c3 rfl c5 N 0 (by omega) (by have := hf.len; omega)
  simp only [List.take_zero, W2, List.map_nil, List.flatten_nil, List.append_nil, Int.natCast_zero] at this
  simp only [this]
 ·rw [if_pos h, if_pos h]
end
end Go.Av
namespace Go.Av
noncomputable section
open Go.Proofs
set_option maxRecDepth 100000
theorem Qgd {f : Qj} : (Q3f f).length = Q6r f := by
 have := @Qdh f
 unfold Q3f Q6r; simp only [List.length_append, Za]; omega
def Qj.nrm (f : Qj) : Qj := ⟨f.Type', f.Channel, f.Ext, f.Values.map Q0.nrm⟩
theorem Qcl {N : Nat} (hN : N = 800000000) {f : Qj} (hf : FB f) : ∀ (n i : Nat), i ≤ f.Values.length → f.Values.length - i < n → Xj N f n (i : Int) ((f.Values.take i).map Q0.nrm) = some f.nrm
 | 0, i, _, h => by omega
 | n + 1, i, hi, hn => by
  have hfl := hf.len
  simp only [Xj, Q9, Vh, Zx, Xr]
  by_cases h : i < f.Values.length
  ·obtain ⟨h1, h2, h3⟩ := hf.one _ (List.getElem_mem h)
   rw [if_pos (by omega), List.getElem?_eq_getElem h]
   simp only [Option.bind_some]
   rw [Qbg N _ (by omega) (by omega)]
   simp only [Option.bind_some]
   rw [if_pos (by rw [Nat.ble_eq, List.length_map, List.length_take]; omega), Qx _ (by omega)]
   have e : (f.Values.take i).map Q0.nrm ++ [f.Values[i].nrm] = (f.Values.take (i + 1)).map Q0.nrm := by
    rw [List.take_succ_eq_append_getElem h, List.map_append]; rfl
   rw [e]
   exact_mod_cast Qcl hN hf n (i + 1) (by omega) (by omega)
  ·rw [if_neg (by omega), List.take_of_length_le (by omega)]; rfl
theorem Qjj {N : Nat} (hN : N = 800000000) (f : Qj) (hf : FB f) : Vu N f = some f.nrm := by
 have := Qcl hN hf N 0 (by omega) (by have := hf.len; omega)
 simp only [List.take_zero, List.map_nil, Int.natCast_zero] at this
 simpa only [Vu] using this
theorem Qj.ext' {a b : Qj} (h1 : a.Type' = b.Type') (h2 : a.Channel = b.Channel) (h3 : a.Ext = b.Ext) (h4 : a.Values = b.Values) : a = b := by cases a; cases b; simp_all
noncomputable instance : DecidableEq Qj := fun a b => decidable_of_iff (a.Type' = b.Type' ∧ a.Channel = b.Channel ∧ a.Ext = b.Ext ∧ a.Values = b.Values) ⟨fun h => Qj.ext' h.1 h.2.1 h.2.2.1 h.2.2.2, fun h => by rw [h]; exact ⟨rfl, rfl, rfl, rfl⟩⟩
theorem Qm7 (l m : List Q0) (i : Nat) (h : i < l.length) (h' : i < m.length) : decide (l.drop i = m.drop i) = (decide (l[i] = m[i]) && decide (l.drop (i + 1) = m.drop (i + 1))) := by
 rw [List.drop_eq_getElem_cons h, List.drop_eq_getElem_cons h', Bool.eq_iff_iff]
 simp only [decide_eq_true_eq, Bool.and_eq_true, List.cons.injEq]
theorem Qc0 {N : Nat} (hN : N = 800000000) {a b : Qj} (ha : Q0.szs a.Values < 700000000) (hl : a.Values.length = b.Values.length) : ∀ (n i : Nat), i ≤ a.Values.length → a.Values.length - i < n → Y7 N a b n (i : Int) = some (decide (a.Values.drop i = b.Values.drop i))
 | 0, i, _, h => by omega
 | n + 1, i, hi, hn => by
  have hs := Q0.szs_len a.Values
  simp only [Y7, Q9, Vh, Zx, Xr]
  by_cases h : i < a.Values.length
  ·have h' : i < b.Values.length := by omega
   have hx := Q0.szs_mem _ _ (List.getElem_mem h)
   rw [if_pos (by omega), List.getElem?_eq_getElem h, List.getElem?_eq_getElem h']
   simp only [Option.bind_some]
   rw [Qkp N _ _ (by omega) (by omega), Qm7 _ _ i h h']
   simp only [Option.bind_some]
   rw [Qx _ (by omega)]
   have ih := Qc0 hN ha hl n (i + 1) (by omega) (by omega)
   have ih : Y7 N a b n ((i : Int) + 1) = some (decide (a.Values.drop (i + 1) = b.Values.drop (i + 1))) := by exact_mod_cast ih
   rw [ih]
   cases decide (a.Values[i] = b.Values[i]) <;> rfl
  ·rw [if_neg (by omega), List.drop_of_length_le (by omega), List.drop_of_length_le (by omega)]; rfl
theorem Ql1 {N : Nat} (hN : N = 800000000) (a b : Qj) (ha : Q0.szs a.Values < 700000000) : Vt N a b = some (decide (a = b)) := by
 have hs := Q0.szs_len a.Values
 simp only [Vt, Q9, U8, Q0r, Zx]
 by_cases h1 : a.Type' = b.Type'
 ·rw [if_neg (by simp [h1])]
  by_cases h2 : a.Channel = b.Channel
  ·rw [if_neg (by simp [h2])]
   by_cases h3 : a.Ext = b.Ext
   ·rw [if_neg (by simp [h3])]
    by_cases h4 : a.Values.length = b.Values.length
    ·rw [if_neg (by simp [h4])]
     have := Qc0 hN ha h4 N 0 (by omega) (by omega)
     rw [List.drop_zero, List.drop_zero] at this
     have : Y7 N a b N 0 = some (decide (a.Values = b.Values)) := by exact_mod_cast this
     rw [this]
     congr 1
     rw [Bool.eq_iff_iff]
     simp only [decide_eq_true_eq]
     exact ⟨fun h => Qj.ext' h1 h2 h3 h, fun h => by rw [h]⟩
    ·rw [if_pos (by omega), decide_eq_false (fun h => h4 (by rw [h]))]
   ·rw [if_pos h3, decide_eq_false (fun h => h3 (by rw [h]))]
  ·rw [if_pos h2, decide_eq_false (fun h => h2 (by rw [h]))]
 ·rw [if_pos h1, decide_eq_false (fun h => h1 (by rw [h]))]
theorem Qcg {N : Nat} (hN : N = 800000000) {f : Qj} (hl : f.Values.length ≤ 6) : ∀ (n i : Nat), i ≤ f.Values.length → f.Values.length - i < n → ∃ b, Zj N f n (i : Int) = some b ∧ (b = true → ∀ x ∈ f.Values.drop i, x.sz ≤ 40 ∧ x.txt)
 | 0, i, _, h => by omega
 | n + 1, i, hi, hn => by
  simp only [Zj, Q9, Vh, Zx, Xr]
  by_cases h : i < f.Values.length
  ·rw [if_pos (by omega), List.getElem?_eq_getElem h]
   obtain ⟨b1, l1, l2⟩ := Qh7 N f.Values[i] (by omega)
   simp only [Option.bind_some, l1]
   cases b1 with
   | false => exact ⟨false, rfl, fun h => by cases h⟩
   | true =>
    rw [Qx _ (by omega)]
    obtain ⟨b, e1, e2⟩ := Qcg hN hl n (i + 1) (by omega) (by omega)
    refine ⟨b, ?_, fun hb x hx => ?_⟩
    ·simp only [Bool.not_true, Bool.false_eq_true, if_false]; exact_mod_cast e1
    ·rw [List.drop_eq_getElem_cons h] at hx
     rcases List.mem_cons.1 hx with rfl | hx
     ·exact l2 rfl
     ·exact e2 hb x hx
  ·rw [if_neg (by omega), List.drop_of_length_le (by omega)]
   exact ⟨true, rfl, fun _ x hx => by cases hx⟩
theorem Qf0 {N : Nat} (hN : N = 800000000) (f : Qj) : ∃ b, Ym N f = some b ∧ (b = true → f.Values.length ≤ 6 ∧ f.Ext.length ≤ 1100 ∧ ∀ x ∈ f.Values, x.sz ≤ 40 ∧ x.txt) := by
 simp only [Ym, Q9, Q2u, Zx]
 by_cases h1 : (f.Values.length : Int) > 6
 ·rw [if_pos h1]; exact ⟨false, rfl, fun h => by cases h⟩
 ·rw [if_neg h1]
  by_cases h2 : (f.Ext.length : Int) > 1100
  ·rw [if_pos h2]; exact ⟨false, rfl, fun h => by cases h⟩
  ·rw [if_neg h2]
   obtain ⟨b, e1, e2⟩ := Qcg hN (f := f) (by omega) N 0 (by omega) (by omega)
   refine ⟨b, by exact_mod_cast e1, fun hb => ⟨by omega, by omega, ?_⟩⟩
   have := e2 hb
   rwa [List.drop_zero] at this
theorem Q5f : ∀ (l : List Q0), (∀ x ∈ l, x.sz ≤ 40 ∧ x.txt) → Q0.szs l ≤ 40 * l.length ∧ Q0.wgts l ≤ 17200 * l.length
 | [], _ => by simp [Q0.szs, Q0.wgts]
 | x :: m, h => by
  have h1 := h x (.head _)
  have h2 := Q5f m (fun y hy => h y (.tail _ hy))
  have h3 := Qp0 x h1.2
  simp only [Q0.szs, Q0.wgts, List.length_cons]; omega
theorem Qna {f : Qj} (hl : f.Values.length ≤ 6) (h : ∀ x ∈ f.Values, x.sz ≤ 40 ∧ x.txt) (hv : ∀ x ∈ f.Values, OkV x) : FB f := by
 obtain ⟨h1, h2⟩ := Q5f _ h
 exact ⟨fun x hx => Qq6 x (hv x hx) (h x hx).2, by omega, by omega⟩
end
end Go.Av
namespace Go.Av
noncomputable section
open Go.Proofs
set_option maxRecDepth 100000
def Qjf : Qj := ⟨0, 0, [], []⟩
def Q1e (s : List UInt8) (l : Z7) : Int × Int :=
 if Q2z l = false then (0, 2) else if s.length < 8 then (0, 3) else if l.MaxPacket < (Uk (s.take 4) : Int) then (0, 4)
 else if Uk (s.take 4) < 8 ∨ (s.getD 4 0).toNat < 2 ∨ Uk (s.take 4) < 4 * (s.getD 4 0).toNat then (0, 5)
 else if 1 < (s.getD 5 0).toNat then (0, 8) else ((Uk (s.take 4) : Int), 0)
def Q36 (rd : List UInt8 → Rd) : Nat → List UInt8 → List Q0 → List Q0 × Int
 | 0, _, _ => ([], 0)
 | k + 1, s, acc => if s = [] then (acc, 0) else if acc.length = 1000 then ([], 4) else if (rd s).2.2 = 3 then ([], 5) else if (rd s).2.2 ≠ 0 then ([], (rd s).2.2) else Q36 rd k (s.drop (rd s).2.1.toNat) (acc ++ [(rd s).1])
def Qrr (q : List Q0 × Int) (r : List Q0 → Qj × Int × Int) : Qj × Int × Int := if q.2 ≠ 0 then (Qjf, 0, q.2) else r q.1
theorem Qii (l : List Q0) (r : List Q0 → Qj × Int × Int) : Qrr (l, 0) r = r l := if_neg (fun h => h rfl)
theorem Qbj (l : List Q0) {e : Int} (h : e ≠ 0) (r : List Q0 → Qj × Int × Int) : Qrr (l, e) r = (Qjf, 0, e) := if_pos h
def Qkk (s : List UInt8) (n : Nat) : List UInt8 := (s.take n).drop (4 * (s.getD 4 0).toNat)
noncomputable def Qim (s : List UInt8) (n : Nat) (m : Nat) : Qj × Int × Int :=
 Qrr (Q36 (Yn (U0 m)) ((Qkk s n).length + 1) (Qkk s n) []) fun vs => (⟨((s.getD 5 0).toNat : Int), (Uk ((s.take 8).drop 6) : Int), (s.take (4 * (s.getD 4 0).toNat)).drop 8, vs⟩, (n : Int), 0)
noncomputable def Qhk (s : List UInt8) (l : Z7) : Qj × Int × Int :=
 if (Q1e s l).2 ≠ 0 then (Qjf, 0, (Q1e s l).2) else if s.length < Uk (s.take 4) then (Qjf, 0, 3) else Qim s (Uk (s.take 4)) l.MaxDepth.toNat
theorem Qlt {s : List UInt8} (h : 8 ≤ s.length) : ∃ a0 a1 a2 a3 a4 a5 a6 a7 t, s = a0 :: a1 :: a2 :: a3 :: a4 :: a5 :: a6 :: a7 :: t := by
 match s, h with
 | a0 :: a1 :: a2 :: a3 :: a4 :: a5 :: a6 :: a7 :: t, _ => exact ⟨a0, a1, a2, a3, a4, a5, a6, a7, t, rfl⟩
theorem Qn3 (b : UInt8) : UInt8.ofNat ((b.toNat : Int)).toNat = b := by simp
theorem Ql0 (b : UInt8) : IntKind.i64.wrap (b.toNat : Int) = ((b.toNat : Nat) : Int) := by
 have := b.toNat_lt
 rw [Qx _ (by omega)]
theorem Qsh (b : UInt8) : IntKind.u64.wrap (b.toNat : Int) = ((b.toNat : Nat) : Int) := by
 have := b.toNat_lt
 exact V5 _ (by omega)
theorem Q6n {l : Z7} (h : Q2z l = true) : 16 ≤ l.MaxPacket ∧ l.MaxPacket ≤ 1048576 ∧ 0 ≤ l.MaxDepth ∧ l.MaxDepth ≤ 32 := by simpa [Q2z] using h
theorem Qub (a b c d : UInt8) : Uk [a, b, c, d] < 4294967296 := by
 have := Q0n [a, b, c, d]
 simpa using this
theorem Qvn (a b : UInt8) : Uk [a, b] < 65536 := by
 have := Q0n [a, b]
 simpa using this
theorem Qgn {s : List UInt8} {l : Z7} (h : (Q1e s l).2 = 0) : Q2z l = true ∧ 8 ≤ s.length ∧ (Uk (s.take 4) : Int) ≤ l.MaxPacket ∧ 8 ≤ Uk (s.take 4) ∧ 2 ≤ (s.getD 4 0).toNat ∧ 4 * (s.getD 4 0).toNat ≤ Uk (s.take 4) ∧ (s.getD 5 0).toNat ≤ 1 ∧ Q1e s l = ((Uk (s.take 4) : Int), 0) := by
 unfold Q1e at h ⊢
 split at h
 ·cases h
 rename_i h1; rw [if_neg h1]
 split at h
 ·cases h
 rename_i h2; rw [if_neg h2]
 split at h
 ·cases h
 rename_i h3; rw [if_neg h3]
 split at h
 ·cases h
 rename_i h4; rw [if_neg h4]
 split at h
 ·cases h
 rename_i h5; rw [if_neg h5]
 exact ⟨by simpa using h1, by omega, by omega, by omega, by omega, by omega, by omega, rfl⟩
theorem Qj5 {N : Nat} (hN : N = 800000000) (s : List UInt8) (l : Z7) : Wv N s l = some (Q1e s l) := by
 simp only [Wv, Q9r, Option.bind_some, Q9, Vh, Q2u, Q1e]
 cases hr : Q2z l with
 | false => rfl
 | true =>
  obtain ⟨r1, r2, r3, r4⟩ := Q6n hr
  simp only [Bool.not_true, Bool.false_eq_true, if_false, Bool.true_eq_false]
  by_cases h8 : s.length < 8
  ·rw [if_pos (by omega), if_pos h8]
  rw [if_neg (by omega), if_neg h8]
  obtain ⟨a0, a1, a2, a3, a4, a5, a6, a7, t, rfl⟩ := Qlt (s := s) (by omega)
  have i0 : idx (a0 :: a1 :: a2 :: a3 :: a4 :: a5 :: a6 :: a7 :: t) 0 = some a0 := rfl
  have i1 : idx (a0 :: a1 :: a2 :: a3 :: a4 :: a5 :: a6 :: a7 :: t) 1 = some a1 := rfl
  have i2 : idx (a0 :: a1 :: a2 :: a3 :: a4 :: a5 :: a6 :: a7 :: t) 2 = some a2 := rfl
  have i3 : idx (a0 :: a1 :: a2 :: a3 :: a4 :: a5 :: a6 :: a7 :: t) 3 = some a3 := rfl
  have i4 : idx (a0 :: a1 :: a2 :: a3 :: a4 :: a5 :: a6 :: a7 :: t) 4 = some a4 := rfl
  have i5 : idx (a0 :: a1 :: a2 :: a3 :: a4 :: a5 :: a6 :: a7 :: t) 5 = some a5 := rfl
  have i6 : idx (a0 :: a1 :: a2 :: a3 :: a4 :: a5 :: a6 :: a7 :: t) 6 = some a6 := rfl
  have i7 : idx (a0 :: a1 :: a2 :: a3 :: a4 :: a5 :: a6 :: a7 :: t) 7 = some a7 := rfl
  have e0 : (a0 :: a1 :: a2 :: a3 :: a4 :: a5 :: a6 :: a7 :: t).take 4 = [a0, a1, a2, a3] := rfl
  have e4 : (a0 :: a1 :: a2 :: a3 :: a4 :: a5 :: a6 :: a7 :: t).getD 4 0 = a4 := rfl
  have e5 : (a0 :: a1 :: a2 :: a3 :: a4 :: a5 :: a6 :: a7 :: t).getD 5 0 = a5 := rfl
  have b4 := a4.toNat_lt
  have b5 := a5.toNat_lt
  have bn := Qub a0 a1 a2 a3
  rw [i0, i1, i2, i3, i4, i5, i6, i7, e0, e4, e5]
  simp only [Option.bind_some, Qn3, Ql0, Qsh]
  rw [Q84 N [a0, a1, a2, a3] (by simp) (by omega)]
  have ew : IntKind.u64.wrap l.MaxPacket = l.MaxPacket := by
   have h : ((l.MaxPacket.toNat : Nat) : Int) = l.MaxPacket := by omega
   have h2 := V5 l.MaxPacket.toNat (by omega)
   rw [h] at h2; exact h2
  have e4w : IntKind.u64.wrap ((a4.toNat : Int) * 4) = ((4 * a4.toNat : Nat) : Int) := by
   rw [show ((a4.toNat : Int) * 4) = ((4 * a4.toNat : Nat) : Int) by omega, V5 _ (by omega)]
  simp only [Option.bind_some, ew, e4w, Qg8]
  generalize Uk [a0, a1, a2, a3] = n at bn ⊢
  by_cases c1 : l.MaxPacket < (n : Int)
  ·rw [if_pos (by omega), if_pos c1]
  rw [if_neg (by omega), if_neg c1]
  by_cases c2 : n < 8 ∨ a4.toNat < 2 ∨ n < 4 * a4.toNat
  ·rw [if_pos c2]
   repeat' split
   all_goals first | rfl | omega
  rw [if_neg c2, if_neg (by omega), if_neg (by omega), if_neg (by omega)]
  by_cases c3 : 1 < a5.toNat
  ·rw [if_pos c3, decide_eq_false (by omega)]; rfl
  ·rw [if_neg c3, decide_eq_true (by omega)]
   simp only [Bool.not_true, Bool.false_eq_true, if_false]
   rw [Qx _ (by omega)]
theorem Q7z {rd : List UInt8 → Rd} (hg : ∀ s, s.length ≤ 600000 → (rd s).2.2 = 0 → 1 ≤ (rd s).2.1) : ∀ (k k' : Nat) (s : List UInt8) (acc : List Q0), s.length ≤ 600000 → s.length < k → s.length < k' → Q36 rd k s acc = Q36 rd k' s acc
 | 0, _, s, acc, _, h, _ => by omega
 | k + 1, 0, s, acc, _, _, h => by omega
 | k + 1, k' + 1, s, acc, hs, h1, h2 => by
  simp only [Q36]
  by_cases h0 : s = []
  ·rw [if_pos h0, if_pos h0]
  rw [if_neg h0, if_neg h0]
  by_cases h3 : acc.length = 1000
  ·rw [if_pos h3, if_pos h3]
  rw [if_neg h3, if_neg h3]
  by_cases h4 : (rd s).2.2 = 3
  ·rw [if_pos h4, if_pos h4]
  rw [if_neg h4, if_neg h4]
  by_cases h5 : (rd s).2.2 = 0
  ·rw [if_neg (by simp [h5]), if_neg (by simp [h5])]
   have := hg s hs h5
   have hl : 0 < s.length := List.length_pos_iff.2 h0
   exact Q7z hg k k' _ _ (by rw [List.length_drop]; omega) (by rw [List.length_drop]; omega) (by rw [List.length_drop]; omega)
  ·rw [if_pos h5, if_pos h5]
theorem Qfq (m : Nat) : ∀ s : List UInt8, s.length ≤ 600000 → (Yn (U0 m) s).2.2 = 0 → 1 ≤ (Yn (U0 m) s).2.1 := fun s hs he => by
 have := (Q2c (Q1x m)).2 s hs he
 omega
theorem Qks {N : Nat} (hN : N = 800000000) {s0 : List UInt8} {l : Z7} {m : Nat} (hm : l.MaxDepth = (m : Int)) (hm2 : m ≤ 32) {v1 : Int × Int} {b5 b7 : UInt8} {v10 : Int} : ∀ (n : Nat) (left : List UInt8) (acc : List Q0), left.length ≤ 600000 → left.length < n → acc.length ≤ 1000 →
  Xk N s0 l v1 b5 b7 v10 n left acc = some (Qrr (Q36 (Yn (U0 m)) n left acc) fun vs => (⟨IntKind.i64.wrap (b7.toNat : Int), IntKind.i64.wrap v10, (s0.take (IntKind.i64.wrap (4 * IntKind.i64.wrap (b5.toNat : Int))).toNat).drop 8, vs⟩, v1.1, 0))
 | 0, left, acc, _, h, _ => by omega
 | n + 1, left, acc, hl, hn, ha => by
  simp only [Xk, Q9, Q0r, V0, U8, Q36, hm]
  by_cases h0 : left = []
  ·rw [if_neg (by simp [h0]), if_pos h0, Qii]
  rw [if_pos h0, if_neg h0]
  by_cases h3 : acc.length = 1000
  ·rw [if_pos (by omega), if_pos h3, Qbj _ (by decide)]; rfl
  rw [if_neg (by omega), if_neg h3, Qqy m N left hm2 (by omega) hl]
  simp only [Option.bind_some]
  by_cases h4 : (Yn (U0 m) left).2.2 = 3
  ·rw [if_pos h4, if_pos h4, Qbj _ (by decide)]; rfl
  rw [if_neg h4, if_neg h4]
  by_cases h5 : (Yn (U0 m) left).2.2 = 0
  ·rw [if_neg (show ¬ ((Yn (U0 m) left).2.2 ≠ 0) by simp [h5]), if_neg (show ¬ ((Yn (U0 m) left).2.2 ≠ 0) by simp [h5])]
   have g1 := Qfq m left hl h5
   have g2 := ((Q2c (Q1x m)).1 left hl h5).2.1
   have hp : 0 < left.length := List.length_pos_iff.2 h0
   rw [if_pos (by rw [Nat.ble_eq]; omega), if_pos (by simp; omega), if_pos (by simp [Nat.ble_eq]; omega), List.take_length]
   exact Qks hN hm hm2 n _ _ (by rw [List.length_drop]; omega) (by rw [List.length_drop]; omega) (by simp; omega)
  ·rw [if_pos h5, if_pos (show (Yn (U0 m) left).2.2 ≠ 0 from h5), Qbj _ h5]; rfl
theorem Qca {N : Nat} (hN : N = 800000000) (s : List UInt8) (l : Z7) (hs : s.length ≤ 600000) : Ww N s l = some (Qhk s l) := by
 simp only [Ww, Qj5 hN, Option.bind_some, Q9, U8, Vh, Qhk]
 by_cases he : (Q1e s l).2 = 0
 ·rw [if_neg (show ¬ ((Q1e s l).2 ≠ 0) from fun h => h he), if_neg (show ¬ ((Q1e s l).2 ≠ 0) from fun h => h he)]
  obtain ⟨q1, q2, q3, q4, q5, q6, q7, q8⟩ := Qgn he
  obtain ⟨r1, r2, r3, r4⟩ := Q6n q1
  rw [q8]
  simp only []
  by_cases hl : s.length < Uk (s.take 4)
  ·rw [if_pos (by omega), if_pos hl]; rfl
  rw [if_neg (by omega), if_neg hl]
  obtain ⟨a0, a1, a2, a3, a4, a5, a6, a7, t, rfl⟩ := Qlt q2
  have i4 : idx (a0 :: a1 :: a2 :: a3 :: a4 :: a5 :: a6 :: a7 :: t) 4 = some a4 := rfl
  have i5 : idx (a0 :: a1 :: a2 :: a3 :: a4 :: a5 :: a6 :: a7 :: t) 5 = some a5 := rfl
  have e6 : ((a0 :: a1 :: a2 :: a3 :: a4 :: a5 :: a6 :: a7 :: t).take 8).drop 6 = [a6, a7] := rfl
  have e4 : (a0 :: a1 :: a2 :: a3 :: a4 :: a5 :: a6 :: a7 :: t).getD 4 0 = a4 := rfl
  have e5 : (a0 :: a1 :: a2 :: a3 :: a4 :: a5 :: a6 :: a7 :: t).getD 5 0 = a5 := rfl
  have b4 := a4.toNat_lt
  have b7 := Qvn a6 a7
  rw [e4] at q5 q6
  have ew : IntKind.i64.wrap (4 * IntKind.i64.wrap (a4.toNat : Int)) = ((4 * a4.toNat : Nat) : Int) := by
   rw [Ql0, Qx _ (by omega)]; push_cast; rfl
  rw [i4, i5]
  simp only [Option.bind_some, ew, Int.toNat_natCast]
  rw [if_pos (by simp [Nat.ble_eq]), e6, Q84 N [a6, a7] (by simp) (by omega)]
  simp only [Option.bind_some]
  rw [if_pos (by rw [decide_eq_true_eq]; omega), if_pos (by simp only [Nat.ble_eq, Bool.and_eq_true]; omega), if_pos (by rw [decide_eq_true_eq]; omega), if_pos (by simp only [Nat.ble_eq, Bool.and_eq_true]; omega)]
  have hm : l.MaxDepth = ((l.MaxDepth.toNat : Nat) : Int) := by omega
  have hdl : (((a0 :: a1 :: a2 :: a3 :: a4 :: a5 :: a6 :: a7 :: t).take (Uk ((a0 :: a1 :: a2 :: a3 :: a4 :: a5 :: a6 :: a7 :: t).take 4))).drop (4 * a4.toNat)).length ≤ 600000 := by
   rw [List.length_drop, List.length_take]; omega
  rw [Qks hN hm (by omega) N _ _ hdl (by omega) (by simp)]
  unfold Qim Qkk
  rw [e4, e5, e6, Q7z (Qfq _) N (_ + 1) _ [] hdl (by rw [hN]; omega) (Nat.lt_succ_self _), ew, Ql0]
  simp only [Int.toNat_natCast, Qx ((Uk [a6, a7] : Nat) : Int) (by omega)]
 ·rw [if_pos he, if_pos he]; rfl
end
end Go.Av
namespace Go.Av
noncomputable section
open Go.Proofs
set_option maxRecDepth 100000
theorem Qqe : Xc 800000000 = some true := by decide +kernel
theorem Qnb (l : List Q0) : Q0.szs (l.map Q0.nrm) = Q0.szs l := by
 induction l with
 | nil => rfl
 | cons x l ih => simp only [List.map_cons, Q0.szs, Q5x, ih]
end
end Go.Av
namespace Go.Av
noncomputable section
open Go.Proofs
set_option maxRecDepth 100000
theorem Qqr {s s' : List UInt8} (l : Z7) (h : 8 ≤ s.length) (h' : 8 ≤ s'.length) (e : s.take 8 = s'.take 8) : Q1e s l = Q1e s' l := by
 obtain ⟨a0, a1, a2, a3, a4, a5, a6, a7, t, rfl⟩ := Qlt h
 obtain ⟨b0, b1, b2, b3, b4, b5, b6, b7, t', rfl⟩ := Qlt h'
 simp only [List.take_succ_cons, List.take_zero, List.cons.injEq, and_true] at e
 obtain ⟨rfl, rfl, rfl, rfl, rfl, rfl, rfl, rfl⟩ := e
 unfold Q1e
 rw [if_neg (show ¬ (_ < 8) by simp), if_neg (show ¬ ((a0 :: a1 :: a2 :: a3 :: a4 :: a5 :: a6 :: a7 :: t').length < 8) by simp)]
 rfl
theorem Q9x {m : Nat} : ∀ (l : List Q0) (k : Nat) (acc : List Q0), (∀ x ∈ l, Fine x ∧ W0 x m = 0 ∧ x.wgt < 4000000000) → acc.length + l.length ≤ 1000 → (W2 l).length < k → Q36 (Yn (U0 m)) k (W2 l) acc = (acc ++ l.map Q0.nrm, 0)
 | [], k + 1, acc, _, _, _ => by simp [W2, Q36]
 | x :: l, 0, acc, _, _, h => by omega
 | x :: l, k + 1, acc, hx, hl, hk => by
  obtain ⟨h1, h2, h3⟩ := hx x (.head _)
  have e : W2 (x :: l) = x.nrm.byt ++ W2 l := by simp [W2]
  have hb := (Qmo x.nrm m (Qb7 h1) (Q78 x m h2) (by rw [Qar]; exact h3)).2 (W2 l)
  have hp := Qet x.nrm
  rw [e, List.length_append] at hk
  simp only [List.length_cons] at hl
  rw [e, Q36, if_neg (by intro h; have := congrArg List.length h; rw [List.length_append, List.length_nil] at this; omega), if_neg (by omega), hb, if_neg (by simp), if_neg (by simp)]
  simp only [Int.toNat_natCast]
  rw [List.drop_left, Q9x l k (acc ++ [x.nrm]) (fun y hy => hx y (.tail _ hy)) (by simp; omega) (by omega)]
  simp
theorem Qso {l : List UInt8} (h : l.length = 4) : ∃ a b c d, l = [a, b, c, d] := by
 match l, h with
 | [a, b, c, d], _ => exact ⟨a, b, c, d, rfl⟩
theorem Qs2 {l : List UInt8} (h : l.length = 2) : ∃ a b, l = [a, b] := by
 match l, h with
 | [a, b], _ => exact ⟨a, b, rfl⟩
theorem Qj8 {f : Qj} (ho : Qlj f = true) (ht : f.Type' = 0 ∨ f.Type' = 1) (hw : Q6r f < 4294967296) (t : List UInt8) : ∃ x0 x1 x2 x3 c0 c1 a b : UInt8, Q3f f ++ t = x0 :: x1 :: x2 :: x3 :: a :: b :: c0 :: c1 :: (f.Ext ++ (W2 f.Values ++ t)) ∧
  Uk [x0, x1, x2, x3] = Q6r f ∧ (Uk [c0, c1] : Int) = f.Channel ∧ a.toNat = 2 + f.Ext.length / 4 ∧ (b.toNat : Int) = f.Type' := by
 obtain ⟨o1, o2, o3, o4⟩ := Qgr ho
 obtain ⟨x0, x1, x2, x3, e1⟩ := Qso (Za 4 (Q6r f))
 obtain ⟨c0, c1, e2⟩ := Qs2 (Za 2 f.Channel.toNat)
 refine ⟨x0, x1, x2, x3, c0, c1, Q1t (2 + f.Ext.length / 4 : Nat), Q1t f.Type', ?_, ?_, ?_, ?_, ?_⟩
 ·unfold Q3f Q4o
  rw [e1, e2]; simp
 ·rw [← e1, Q15, Nat.mod_eq_of_lt (by omega)]
 ·rw [← e2, Q15, Nat.mod_eq_of_lt (by omega)]; omega
 ·have := Q1m (c := ((2 + f.Ext.length / 4 : Nat) : Int)) (by omega)
  omega
 ·exact Q1m (by omega)
theorem Qdn {f : Qj} {l : Z7} (hf : FB f) (hc : Q1b f l = 0) (t : List UInt8) : Q1e (Q3f f ++ t) l = ((Q6r f : Int), 0) ∧ Qhk (Q3f f ++ t) l = (f.nrm, (Q6r f : Int), 0) := by
 obtain ⟨c1, c2, c3, c4, c5, c6⟩ := Q3t hc
 obtain ⟨r1, r2, r3, r4⟩ := Q6n c1
 obtain ⟨o1, o2, o3, o4⟩ := Qgr c3
 have htot : 8 + f.Ext.length + (W2 f.Values).length = Q6r f := rfl
 obtain ⟨x0, x1, x2, x3, d0, d1, a, b, e, n1, n2, n3, n4⟩ := Qj8 c3 c2 (by omega) t
 rw [e]
 have i0 : (x0 :: x1 :: x2 :: x3 :: a :: b :: d0 :: d1 :: (f.Ext ++ (W2 f.Values ++ t))).take 4 = [x0, x1, x2, x3] := rfl
 have i4 : (x0 :: x1 :: x2 :: x3 :: a :: b :: d0 :: d1 :: (f.Ext ++ (W2 f.Values ++ t))).getD 4 0 = a := rfl
 have i5 : (x0 :: x1 :: x2 :: x3 :: a :: b :: d0 :: d1 :: (f.Ext ++ (W2 f.Values ++ t))).getD 5 0 = b := rfl
 have i6 : ((x0 :: x1 :: x2 :: x3 :: a :: b :: d0 :: d1 :: (f.Ext ++ (W2 f.Values ++ t))).take 8).drop 6 = [d0, d1] := rfl
 have i8 : (x0 :: x1 :: x2 :: x3 :: a :: b :: d0 :: d1 :: (f.Ext ++ (W2 f.Values ++ t))).drop 8 = f.Ext ++ (W2 f.Values ++ t) := rfl
 have ha : 4 * a.toNat = 8 + f.Ext.length := by omega
 have hh : Q1e (x0 :: x1 :: x2 :: x3 :: a :: b :: d0 :: d1 :: (f.Ext ++ (W2 f.Values ++ t))) l = ((Q6r f : Int), 0) := by
  unfold Q1e
  rw [i0, i4, i5, n1, if_neg (by simp [c1]), if_neg (by simp), if_neg (by omega), if_neg (by omega), if_neg (by omega)]
 refine ⟨hh, ?_⟩
 unfold Qhk
 have hlen : (x0 :: x1 :: x2 :: x3 :: a :: b :: d0 :: d1 :: (f.Ext ++ (W2 f.Values ++ t))).length = 8 + f.Ext.length + (W2 f.Values).length + t.length := by simp; omega
 rw [hh, if_neg (by simp), i0, n1, if_neg (by rw [hlen]; omega)]
 unfold Qim
 have hbody : Qkk (x0 :: x1 :: x2 :: x3 :: a :: b :: d0 :: d1 :: (f.Ext ++ (W2 f.Values ++ t))) (Q6r f) = W2 f.Values := by
  unfold Qkk
  rw [i4, ha, List.drop_take, ← List.drop_drop, i8, List.drop_left, show Q6r f - (8 + f.Ext.length) = (W2 f.Values).length by omega, List.take_left]
 have hext : ((x0 :: x1 :: x2 :: x3 :: a :: b :: d0 :: d1 :: (f.Ext ++ (W2 f.Values ++ t))).take (4 * a.toNat)).drop 8 = f.Ext := by
  rw [ha, List.drop_take, i8, show 8 + f.Ext.length - 8 = f.Ext.length by omega, List.take_left]
 have hm : l.MaxDepth = ((l.MaxDepth.toNat : Nat) : Int) := by omega
 rw [hbody, i4, i5, i6, hext, n2, n4, Q9x f.Values _ [] (fun x hx => ⟨(hf.one x hx).1, by
  have := (Q79 (c5 x hx)).1
  rwa [hm] at this, (hf.one x hx).2.2⟩) (by simp; omega) (Nat.lt_succ_self _), Qii]
 simp only [List.nil_append]
 rfl
theorem Qlo {f : Qj} {l : Z7} (hf : FB f) (hc : Q1b f l = 0) {j : Nat} (hj : j < Q6r f) : Qhk ((Q3f f).take j) l = (Qjf, 0, 3) := by
 obtain ⟨c1, _⟩ := Q3t hc
 have h0 := (Qdn hf hc []).1
 rw [List.append_nil] at h0
 have hlen := @Qgd f
 have hjl : ((Q3f f).take j).length = j := by rw [List.length_take]; omega
 unfold Qhk
 by_cases h8 : j < 8
 ·have : Q1e ((Q3f f).take j) l = (0, 3) := by
   unfold Q1e
   rw [if_neg (by simp [c1]), if_pos (by omega)]
  rw [this, if_pos (by simp)]
 ·have e := Qqr l (s := (Q3f f).take j) (s' := Q3f f) (by omega) (by omega) (by rw [List.take_take]; congr 1; omega)
  have hn : Uk (((Q3f f).take j).take 4) = Q6r f := by
   have h1 := (Qgn (s := Q3f f) (l := l) (by rw [h0])).2.2.2.2.2.2.2
   rw [h0] at h1
   rw [List.take_take, Nat.min_eq_left (by omega)]
   have := congrArg Prod.fst h1
   simp only [] at this
   omega
  rw [e, h0, if_neg (by simp), hn, hjl, if_pos hj]
theorem Qq8 {N : Nat} (hN : N = 800000000) (hlv : Xc N = some true) (f : Qj) (more : List UInt8) (l : Z7) (cut : Int) (hf : OkF f) : Zr N f more l cut = some true := by
 obtain ⟨b1, l1, l2⟩ := Qf0 hN f
 simp only [Zr, hlv, Option.bind_some, Q9, Bool.not_true, Bool.false_eq_true, if_false, l1, Q2u]
 cases b1 with
 | false => rfl
 | true =>
  obtain ⟨n1, x1, v1⟩ := l2 rfl
  have hfb := Qna n1 v1 hf.vals
  simp only [Bool.not_true, Bool.false_eq_true, if_false]
  by_cases hs : more.length > 200
  ·rw [if_pos (by omega)]
  rw [if_neg (by omega)]
  simp only [Qh3 hN f l hfb, Q9m hN f l hfb, Option.bind_some, U8]
  by_cases hc : Q1b f l = 0
  ·obtain ⟨c1, c2, c3, c4, c5, c6⟩ := Q3t hc
   obtain ⟨r1, r2, r3, r4⟩ := Q6n c1
   rw [if_neg (show ¬ (Q1b f l ≠ 0) from fun h => h hc)]
   simp only []
   rw [if_neg (by simp [hc]), if_neg (by simp)]
   have hlen := @Qgd f
   have htot : 8 + f.Ext.length + (W2 f.Values).length = Q6r f := rfl
   obtain ⟨h1, h2⟩ := Qdn hfb hc more
   have hsz := hfb.sz
   have hbl := Q7x f.Values
   have hws := (Q5f _ v1).2
   rw [if_pos (by rw [Nat.ble_eq]; omega), Qca hN _ l (by rw [List.length_append]; omega), h2]
   simp only [Option.bind_some]
   rw [Qj5 hN, h1]
   simp only [Option.bind_some]
   rw [if_neg (by simp), if_neg (by rw [hlen]; simp), if_neg (by simp), if_neg (by simp), if_neg (by omega), Qjj hN f hfb]
   simp only [Option.bind_some]
   rw [Ql1 hN f.nrm f.nrm (by unfold Qj.nrm; rw [Qnb]; omega)]
   simp only [Option.bind_some, decide_true, Bool.not_true, Bool.false_eq_true, if_false]
   rw [Qp6 N cut _ (by omega) (by omega)]
   simp only [Option.bind_some]
   have hj1 := Int.emod_nonneg cut (show ((Q6r f : Nat) : Int) ≠ 0 by omega)
   have hj2 := Int.emod_lt_of_pos cut (show (0 : Int) < ((Q6r f : Nat) : Int) by omega)
   rw [if_pos (by rw [decide_eq_true_eq]; exact hj1), if_pos (by simp only [Nat.ble_eq, Bool.and_eq_true]; omega), List.drop_zero, Qca hN _ l (by rw [List.length_take]; omega), Qlo hfb hc (by omega)]
   rfl
  ·rw [if_pos (show Q1b f l ≠ 0 from hc)]
   simp only []
   rw [if_neg (fun h => h rfl), if_pos hc]
   rfl
theorem Qdu (f : Qj) (more : List UInt8) (l : Z7) (cut : Int) (hf : OkF f) (_ : OkL l) : Zr 800000000 f more l cut = some true := Qq8 rfl Qqe f more l cut hf
end
end Go.Av
