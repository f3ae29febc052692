/- The law. Part of a proof of a given statement: for every input the law returns true and the arguments read as before; no condition beyond the given row. -/
import Derived.Test.YtegedmcbfmfjeaaGreatDoorPlainb
import Derived.Test.YtegedmcbfmfjeaaGreatDoorOks
import Derived.Test.YtegedmcbfmfjeaaGreatDoorLiftF3
namespace Go.Av
noncomputable section
open Go.Proofs
set_option maxRecDepth 100000
theorem Qki (N : Nat) (code : Int) (v : Q0) (b : List UInt8) (hn : okU v.N') (h : v.Text.length < N) (hb : v.Text.length < 4611686018427387000) (hN : 50 < N) (hl : b.length < 4611686018427387000) (hl2 : v.Items.length < 4611686018427387000) : Xc N code v b = some (Q53 code v b) := by
 simp only [Xc, Q8v N code hN, Option.bind_some, Qbd N code v hn h hb hN, Qb, Vi, Z7, Q53]
 by_cases hi : (ofS code).Items = false
 ·rw [if_pos (by simp [hi]), if_pos hi]
 ·rw [if_neg (by simpa using hi), if_neg hi]
  by_cases h0 : (ofS code).Width = 0
  ·rw [if_pos h0, if_pos h0]
   congr 1
   rw [Bool.eq_iff_iff, Vi]; simp
  ·rw [if_neg h0, if_neg h0]
   by_cases h4 : (ofS code).Width = 4
   ·rw [if_pos h4]; simp [h4]
   ·rw [if_neg h4, Z1 _ (by omega)]
    split
    ·rename_i h5
     rw [W2] at h5
     congr 1
     rw [Bool.eq_iff_iff, W2]; simp [h4]; omega
    ·rename_i h5
     rw [W2] at h5
     congr 1
     symm
     rw [decide_eq_false_iff_not]; omega
theorem Qah {N : Nat} {k0 : Int → Option Int} {items : List Q0} {ins : List (List UInt8)} {v1 : List Int} {i : Nat} {code : Int} (hlen : items.length = ins.length) (hc : v1[i]? = some code) (hb : items.length < 1000000000)
  (hR : ∀ p ∈ items.zip ins, Xc N code p.1 p.2 = some (Q53 code p.1 p.2)) : ∀ (n k : Nat) (all : Bool), k ≤ items.length → items.length - k < n →
  Yn N k0 items ins v1 (i : Int) n all (k : Int) = if (all && Qkn code ((items.zip ins).drop k)) = true then some code else k0 (IntKind.i64.wrap ((i : Int) + 1))
 | 0, k, all, _, h => by omega
 | n + 1, k, all, hk, hn => by
  simp only [Yn, Qb, W2, Z7, Xz, hc, Option.bind_some]
  by_cases h : k < items.length
  ·rw [if_pos (by omega), List.getElem?_eq_getElem h, List.getElem?_eq_getElem (show k < ins.length by omega)]
   have hz : k < (items.zip ins).length := by simp; omega
   have hmem : (items[k], ins[k]) ∈ items.zip ins := by
    have := List.getElem_mem hz
    rwa [List.getElem_zip] at this
   have hd : (items.zip ins).drop k = (items[k], ins[k]) :: (items.zip ins).drop (k + 1) := by
    rw [List.drop_eq_getElem_cons hz, List.getElem_zip]
   simp only [Option.bind_some, hR _ hmem]
   cases all with
   | false => simp
   | true =>
    rw [if_pos rfl, Z1 _ (by omega)]
    have ih := Qah (N := N) (k0 := k0) hlen hc hb hR n (k + 1) (Q53 code items[k] ins[k]) (by omega) (by omega)
    rw [hd]
    simp only [Qkn, List.all_cons, Bool.true_and] at ih ⊢
    exact_mod_cast ih
  ·rw [if_neg (by omega), List.drop_of_length_le (by simp; omega)]
   cases all <;> simp [Qkn]
theorem Qa6 {N : Nat} {items : List Q0} {ins : List (List UInt8)} {v1 : List Int} (hlen : items.length = ins.length) (hb : items.length < 1000000000) (hb1 : v1.length < 1000) (hN : items.length < N)
  (hR : ∀ c ∈ v1, ∀ p ∈ items.zip ins, Xc N c p.1 p.2 = some (Q53 c p.1 p.2)) : ∀ (n i : Nat), i ≤ v1.length → v1.length - i < n →
  Zi N items ins v1 n (i : Int) = some (((v1.drop i).find? (fun c => Qkn c (items.zip ins))).getD 0)
 | 0, i, _, h => by omega
 | n + 1, i, hi, hn => by
  simp only [Zi, Qb, W2, Xr]
  by_cases h : i < v1.length
  ·rw [if_pos (by omega)]
   have := Qah (k0 := Zi N items ins v1 n) hlen (List.getElem?_eq_getElem h) hb (hR _ (List.getElem_mem h)) N 0 true (by omega) (by omega)
   rw [show (0 : Int) = ((0 : Nat) : Int) from rfl, this, List.drop_zero, Bool.true_and, List.drop_eq_getElem_cons h, List.find?_cons]
   cases Qkn v1[i] (items.zip ins) with
   | true => simp
   | false =>
    rw [if_neg (by simp), Z1 _ (by omega)]
    exact_mod_cast Qa6 hlen hb hb1 hN hR n (i + 1) (by omega) (by omega)
  ·rw [if_neg (by omega), List.drop_of_length_le (by omega)]; simp
theorem Qam (N : Nat) (k : Int) (items : List Q0) (ins : List (List UInt8)) (hlen : items.length = ins.length) (hb : items.length < 1000000000) (hN : items.length < N) (hN2 : 50 < N)
  (hp : ∀ p ∈ items.zip ins, okU p.1.N' ∧ p.1.Text.length < N ∧ p.1.Text.length < 4611686018427387000 ∧ p.2.length < 4611686018427387000 ∧ p.1.Items.length < 4611686018427387000) :
  Xv N k items ins = some (Q3l k (items.zip ins)) := by
 have hc := Qjg k
 simp only [Xv, Qh8 N k hN2, Option.bind_some]
 have := Qa6 (N := N) (v1 := Uu k) hlen hb (by omega) hN (fun c _ p hp' => by
  obtain ⟨h1, h2, h3, h4, h5⟩ := hp p hp'
  exact Qki N c p.1 p.2 h1 h2 h3 hN2 h4 h5) N 0 (by omega) (by omega)
 rw [List.drop_zero] at this
 exact this
theorem Qbg (N : Nat) (code : Int) (v : Q0) (b : List UInt8) (hc : ofB code = true) (hn : okU v.N') (h : v.Text.length < N) (hb : v.Text.length < 4611686018427387000) (hN : 50 < N) (hl : b.length < 1000000000000000000) (hl2 : v.Items.length < 1000000000000000000) : Xd N code v b = some (Ja code v b) := by
 simp only [Xd, Q8v N code hN, Option.bind_some, Qlu N code v hn h hb hN, Qb, Z7, Ja]
 by_cases hi : (ofS code).Items = false
 ·rw [if_pos (by simp [hi]), if_pos hi]
 ·rw [if_neg (by simpa using hi), if_neg hi]
  have hi : (ofS code).Items = true := by simpa using hi
  by_cases hs : (ofS code).Sized = false
  ·rw [if_pos (by simp [hs]), if_pos hs]
  ·rw [if_neg (by simpa using hs), if_neg hs]
   have hs : (ofS code).Sized = true := by simpa using hs
   obtain ⟨w1, _⟩ := (Gr hc hi).1 hs
   obtain ⟨w, hw, hw2⟩ : ∃ w : Nat, (ofS code).Width = (w : Int) ∧ w ≤ 4 := by
    rcases w1 with h | h
    ·exact ⟨1, h, by omega⟩
    ·exact ⟨4, h, by omega⟩
   rw [hw, Z1 _ (by omega), show ((b.length : Int) + (w : Int)) = ((b.length + w : Nat) : Int) by push_cast; rfl, J7 _ (by omega), J7 _ (by omega),
    Qbo N _ w (by omega) (by omega) (by omega), Qbo N _ w (by omega) (by omega) (by omega)]
   simp only [Option.bind_some, Int.toNat_natCast, Xy, Nat.ble_eq, List.length_append]
   rw [if_pos (by omega), if_pos (by omega), List.append_assoc]
theorem Qab {R : Q0 → Option (List UInt8)} {N : Nat} {l : List Q0} (hb : l.length < 1000000000) (hR : ∀ y ∈ l, R y = some y.inn) : ∀ (n i : Nat), i ≤ l.length → l.length - i < n →
  Yl R N l n (i : Int) ((l.take i).map Q0.inn) = some (l.map Q0.inn)
 | 0, i, _, h => by omega
 | n + 1, i, hi, hn => by
  simp only [Yl, Qb, W2, Z7, Xz]
  by_cases h : i < l.length
  ·rw [if_pos (by omega), List.getElem?_eq_getElem h]
   simp only [Option.bind_some, hR _ (List.getElem_mem h)]
   rw [if_pos (by rw [Nat.ble_eq, List.length_map, List.length_take]; omega), Z1 _ (by omega)]
   have e : (l.take i).map Q0.inn ++ [l[i].inn] = (l.take (i + 1)).map Q0.inn := by rw [List.take_succ_eq_append_getElem h, List.map_append]; rfl
   rw [e]
   exact_mod_cast Qab (N := N) hb hR n (i + 1) (by omega) (by omega)
  ·rw [if_neg (by omega), List.take_of_length_le (by omega)]
theorem Qfp {α : Type} (f : Q0 → List α) (l : List Q0) (i : Nat) (h : i < l.length) : ((l.take i).map f).flatten ++ f l[i] = ((l.take (i + 1)).map f).flatten := by
 rw [List.take_succ_eq_append_getElem h, List.map_append, List.flatten_append]; simp
theorem Qo2 (f : Q0 → List UInt8) (l : List Q0) (i : Nat) : ((l.take i).map f).flatten.length ≤ (l.map f).flatten.length := by
 conv => rhs; rw [← List.take_append_drop i l, List.map_append, List.flatten_append, List.length_append]
 omega
theorem Q8b {N : Nat} {v : Q0} {ins : List (List UInt8)} {c : Int} (hins : ins = v.Items.map Q0.inn) (hb : v.Items.length < 1000000000) (hl : (v.Items.map fun x => Ja c x x.inn).flatten.length < 1000000000000000000)
  (hR : ∀ y ∈ v.Items, Xd N c y y.inn = some (Ja c y y.inn)) : ∀ (n i : Nat), i ≤ v.Items.length → v.Items.length - i < n →
  Yi N v ins c n (Q2h c :: ((v.Items.take i).map fun x => Ja c x x.inn).flatten) (i : Int) = some (Q2h c :: (v.Items.map fun x => Ja c x x.inn).flatten)
 | 0, i, _, h => by omega
 | n + 1, i, hi, hn => by
  simp only [Yi, Qb, W2, Z7, Xz]
  by_cases h : i < v.Items.length
  ·have hx : ins[i]? = some v.Items[i].inn := by rw [hins, List.getElem?_map, List.getElem?_eq_getElem h]; rfl
   have hft := Qfp (fun x => Ja c x x.inn) v.Items i h
   have h1 := Qo2 (fun x => Ja c x x.inn) v.Items (i + 1)
   rw [← hft, List.length_append] at h1
   rw [if_pos (by omega), List.getElem?_eq_getElem h, hx]
   simp only [Option.bind_some, hR _ (List.getElem_mem h)]
   rw [if_pos (by simp only [Nat.ble_eq, List.length_cons]; omega), Z1 _ (by omega), List.cons_append, hft]
   exact_mod_cast Q8b hins hb hl hR n (i + 1) (by omega) (by omega)
  ·rw [if_neg (by omega), List.take_of_length_le (by omega)]
theorem Q7y {R : Q0 → Option (List UInt8)} {N : Nat} {v : Q0} (hk : v.Kind ≠ 25) (hb : v.Items.length < 1000000000) (hl : (v.Items.map Q0.byt).flatten.length < 1000000000000000000)
  (hR : ∀ y ∈ v.Items, R y = some y.byt) : ∀ (n i : Nat), i ≤ v.Items.length → v.Items.length - i < n →
  Zt R N v n ((v.Items.take i).map Q0.byt).flatten (i : Int) = some (v.Items.map Q0.byt).flatten
 | 0, i, _, h => by omega
 | n + 1, i, hi, hn => by
  simp only [Zt, Qb, W2, Vb, Z7, Xz]
  by_cases h : i < v.Items.length
  ·have hft := Qfp Q0.byt v.Items i h
   have h1 := Qo2 Q0.byt v.Items (i + 1)
   rw [← hft, List.length_append] at h1
   rw [if_pos (by omega), if_pos hk, List.getElem?_eq_getElem h]
   simp only [Option.bind_some, hR _ (List.getElem_mem h)]
   rw [if_pos (by simp only [Nat.ble_eq]; omega), Z1 _ (by omega), hft]
   exact_mod_cast Q7y (N := N) hk hb hl hR n (i + 1) (by omega) (by omega)
  ·rw [if_neg (by omega), List.take_of_length_le (by omega)]
theorem Q4j {c : Int} (h : 0 ≤ c ∧ c < 256) : UInt8.ofNat (IntKind.u8.wrap c).toNat = Q2h c := by
 unfold Q2h
 rw [Qte, Int.emod_eq_of_lt h.1 h.2]
theorem Qsx {v : Q0} (hw : v.wgt < 4000000000) : v.inn.length < 1000000000000000000 ∧ (v.Items.map Q0.byt).flatten.length < 1000000000000000000 ∧ (∀ c, (v.Items.map fun x => Ja c x x.inn).flatten.length < 1000000000000000000) ∧ ∀ x ∈ v.Items, x.wgt < 4000000000 := by
 have hwe := v.wgt_eq
 have h1 := (Q1i v).1
 have s1 : ∀ (f : Q0 → List UInt8) (l : List Q0), (∀ x ∈ l, (f x).length ≤ x.wgt) → (l.map f).flatten.length ≤ Q0.wgts l := by
  intro f l
  induction l with
  | nil => intro _; simp
  | cons x l ihl =>
   intro h
   have h1 := h x (.head _)
   have h2 := ihl (fun y hy => h y (.tail _ hy))
   simp only [List.map_cons, List.flatten_cons, List.length_append, Q0.wgts]; omega
 refine ⟨by omega, ?_, fun c => ?_, fun x hx => by have := Qne hx; omega⟩
 ·have := s1 Q0.byt v.Items (fun x _ => (Q1i x).2.1); omega
 ·have := s1 (fun x => Ja c x x.inn) v.Items (fun x _ => by have := (Q1i x).2.2 c; omega); omega
theorem Qu0 (v : Q0) : ∀ m : Int, Fine v → U4 v m = 0 → v.wgt < 4000000000 → v.sz < 1000000000 →
  (∀ N, 3 * v.sz + 300099 ≤ N → Xg N v = some v.inn) ∧ ∀ N, 3 * v.sz + 300100 ≤ N → X0 N v = some v.byt := by
 induction v using Q0.ind with
 | h v ih =>
  intro m hf hc hw hz
  have hs := v.sz_eq
  have hsl := Q0.szs_len v.Items
  obtain ⟨l1, l2, l3, l4⟩ := Qsx hw
  have hit : ∀ x ∈ v.Items, ∃ m', U4 x m' = 0 := fun x hx => by
   rcases Ga hc with ⟨k1, k2, k3⟩ | ⟨_, _, _, _, _, _, k7⟩
   ·rw [(Gg k3).2.2.2.1] at hx; cases hx
   ·exact ⟨_, (k7 x hx).1⟩
  have hsx : ∀ x ∈ v.Items, x.sz + 1 ≤ v.sz := fun x hx => by have := Q0.szs_mem _ x hx; omega
  have hI : ∀ x ∈ v.Items, (∀ N, 3 * x.sz + 300099 ≤ N → Xg N x = some x.inn) ∧ ∀ N, 3 * x.sz + 300100 ≤ N → X0 N x = some x.byt := fun x hx => by
   obtain ⟨m', hm⟩ := hit x hx
   exact ih x hx m' (hf.items x hx) hm (l4 x hx) (by have := hsx x hx; omega)
  have htx := hf.text
  have hW : ∀ N, 3 * v.sz + 300099 ≤ N → Xg N v = some v.inn := by
   intro N hN
   obtain ⟨N, rfl⟩ : ∃ N', N = N' + 2 := ⟨N - 2, by omega⟩
   show Wb (X0 (N + 1)) (Xg (N + 1)) (Uy (N + 1)) (N + 1) v = _
   rw [Qi6]
   simp only [Wb, Qb, Vi]
   by_cases h4 : v.Kind = 24
   ·rw [if_pos h4, if_pos h4]
    rcases Ga hc with ⟨k1, k2, k3⟩ | ⟨k1, k2, k3, k4, k5, k6, k7⟩
    ·omega
    obtain ⟨s1, s2, s3, s4, s5⟩ := Q0j k4
    have hn := s2 h4
    have hin : Uy (N + 1) v.Items = some (v.Items.map Q0.inn) :=
     Qab (R := Xg N) (N := N) (by omega) (fun x hx => (hI x hx).1 N (by have := hsx x hx; omega)) N 0 (by omega) (by omega)
    have hzip : v.Items.zip (v.Items.map Q0.inn) = v.prs := by
     unfold Q0.prs
     have : ∀ l : List Q0, l.zip (l.map Q0.inn) = l.map fun x => (x, x.inn) := by
      intro l
      induction l with
      | nil => rfl
      | cons x l ih => simp [ih]
     exact this _
    have hfi := Qam (N + 1) v.N' v.Items (v.Items.map Q0.inn) (by simp) (by omega) (by omega) (by omega) (fun p hp => by
     rw [hzip] at hp
     unfold Q0.prs at hp
     obtain ⟨x, hx, rfl⟩ := List.mem_map.1 hp
     have f1 := hf.items x hx
     have f2 := f1.text
     have f3 := (Q1i x).1
     have f4 := l4 x hx
     have f5 := hsx x hx
     have f6 := x.sz_eq
     have f7 := Q0.szs_len x.Items
     have f8 := x.wgt_eq
     exact ⟨f1.num, by simp only []; omega, by simp only []; omega, by simp only []; omega, by simp only []; omega⟩)
    rw [hzip] at hfi
    obtain ⟨e1, _⟩ := Qqp hf hc h4
    obtain ⟨d1, _, _⟩ := Q7e _ _ e1
    rw [hin]
    simp only [Option.bind_some]
    rw [Z1 _ (by omega), hfi]
    simp only [Option.bind_some]
    have hel : Q3l v.N' v.prs = v.elm := rfl
    rw [hel, Q4j (Q4f d1)]
    have := Q8b (N := N + 1) (v := v) (c := v.elm) rfl (by omega) (l3 v.elm) (fun x hx => by
     have f1 := hf.items x hx
     have f2 := f1.text
     have f3 := (Q1i x).1
     have f4 := l4 x hx
     have f5 := hsx x hx
     have f6 := x.sz_eq
     have f7 := Q0.szs_len x.Items
     have f8 := x.wgt_eq
     exact Qbg (N + 1) v.elm x x.inn d1 f1.num (by omega) (by omega) (by omega) (by omega) (by omega)) (N + 1) 0 (by omega) (by omega)
    exact this
   ·rw [if_neg h4, if_neg h4]
    by_cases h5 : v.Kind = 25
    ·rw [if_pos h5]
     simp only [Zt, Qb, W2, Vb, Z7]
     rw [if_neg (show ¬ (v.Kind ≠ 25) by omega)]
     simp
    ·rw [if_neg h5]
     have := Q7y (R := X0 (N + 1)) (N := N + 1) h5 (by omega) l2 (fun x hx => (hI x hx).2 (N + 1) (by have := hsx x hx; omega)) (N + 1) 0 (by omega) (by omega)
     exact this
  refine ⟨hW, fun N hN => ?_⟩
  obtain ⟨N, rfl⟩ : ∃ N', N = N' + 1 := ⟨N - 1, by omega⟩
  show Wp (X0 N) (Xg N) (Uy N) N v = _
  rw [Qey]
  simp only [Wp, Qb, Vi]
  by_cases h5 : v.Kind = 25
  ·rw [if_pos h5, if_pos h5]
   rcases Ga hc with ⟨k1, k2, k3⟩ | ⟨k1, k2, k3, k4, k5, k6, k7⟩
   ·omega
   have hl := (Q0j k4).2.2.2.1 h5
   match hI' : v.Items, hl with
   | [x, y], _ =>
    have hx : x ∈ v.Items := by rw [hI']; simp
    have hy : y ∈ v.Items := by rw [hI']; simp
    have e0 : idx [x, y] 0 = some x := rfl
    have e1 : idx [x, y] 1 = some y := rfl
    rw [e0, e1]
    have b1 := (Q1i x).2.1
    have b2 := (Q1i y).2.1
    have b3 := l4 x hx
    have b4 := l4 y hy
    simp only [Option.bind_some, (hI x hx).2 N (by have := hsx x hx; omega), (hI y hy).2 N (by have := hsx y hy; omega)]
    rw [if_pos (by simp only [Nat.ble_eq, List.length_cons, List.length_nil]; omega), if_pos (by simp only [Nat.ble_eq, List.length_append, List.length_cons, List.length_nil]; omega)]
    simp
  ·rw [if_neg h5, if_neg h5, hW N (by omega)]
   simp only [Option.bind_some]
   have hfi := Qam N v.Kind [v] [v.inn] rfl (by simp) (by simp; omega) (by omega) (fun p hp => by
    have : p = (v, v.inn) := by simpa using hp
    subst this
    exact ⟨hf.num, by simp only []; omega, by simp only []; omega, by simp only []; omega, by simp only []; omega⟩)
   have hz' : [v].zip [v.inn] = [(v, v.inn)] := rfl
   rw [hfi, hz']
   simp only [Option.bind_some]
   have hco : Q3l v.Kind [(v, v.inn)] = v.cod := rfl
   obtain ⟨e1, _⟩ := Qqd hf hc h5
   obtain ⟨d1, _, _⟩ := Q7e _ _ e1
   have hdl := (Q1i v).2.2 v.cod
   rw [hco, Qbg N v.cod v v.inn d1 hf.num (by omega) (by omega) (by omega) (by omega) (by omega)]
   simp only [Option.bind_some]
   rw [if_pos (by simp only [Nat.ble_eq, List.length_cons, List.length_nil]; omega), Q4j (Q4f d1)]
   rfl
theorem Qgt (N : Nat) (v : Q0) (m : Int) (hf : Fine v) (hw : v.wgt < 4000000000) (hz : v.sz < 1000000000) (hN : 3 * v.sz + 301000 ≤ N) :
  Wo N v m = some (if J5 v m ≠ 0 then ([], J5 v m) else (v.nrm.byt, 0)) := by
 simp only [Wo, Q4c N v m hf (by omega) hz, Option.bind_some, Qb, Vb]
 by_cases h : J5 v m = 0
 ·rw [if_neg (by simp [h]), if_neg (by simp [h]), Q79 N v hf (by omega) hz]
  have hc : U4 v m = 0 := by
   unfold J5 at h
   split at h
   ·cases h
   ·exact h
  simp only [Option.bind_some, (Qu0 v.nrm m (Qic hf) (Qeq v m hc) (by rw [Qgk]; exact hw) (by rw [Qqy]; exact hz)).2 N (by rw [Qqy]; omega)]
 ·rw [if_pos h, if_pos h]
end
end Go.Av
namespace Go.Av
noncomputable section
open Go.Proofs
set_option maxRecDepth 100000
def Q5p (s : List UInt8) : List Int := s.map fun b => (b.toNat : Int)
theorem Qp1 (s t : List UInt8) : Q5p (s ++ t) = Q5p s ++ Q5p t := by simp [Q5p]
theorem Q19 (s : List UInt8) : (Q5p s).length = s.length := by simp [Q5p]
end
end Go.Av
namespace Go.Av
noncomputable section
open Go.Proofs
set_option maxRecDepth 100000
theorem Qrr (v : Q0) : v.byt.length = 1 + (if v.Kind = 25 then (v.Items.map Q0.byt).flatten.length else (Ja v.cod v v.inn).length) := by
 rw [Qey]
 split <;> simp <;> omega
theorem Qnn {v : Q0} {m : Int} (h : J5 v m = 0) : U4 v m = 0 ∧ 0 ≤ m ∧ m ≤ 32 := by
 unfold J5 at h
 split at h
 ·cases h
 ·rename_i hr
  unfold Q60 at hr
  simp at hr
  exact ⟨h, hr.1, hr.2⟩
theorem Qmm (s : List UInt8) : (Q5p s).map (fun n => UInt8.ofNat n.toNat) = s := by
 unfold Q5p
 rw [List.map_map]
 conv => rhs; rw [← List.map_id s]
 apply List.map_congr_left
 intro b _
 simp
end
end Go.Av
namespace Go.Av
noncomputable section
open Go.Proofs
set_option maxRecDepth 100000
theorem Qs0 (v : Q0) (h : v.txt) : v.wgt ≤ 430 * v.sz := by
 induction v using Q0.ind with
 | h v ih =>
  rw [Q0.txt_eq] at h
  have hl : ∀ l : List Q0, (∀ x ∈ l, x.wgt ≤ 430 * x.sz) → Q0.wgts l ≤ 430 * Q0.szs l := by
   intro l
   induction l with
   | nil => intro _; simp [Q0.wgts]
   | cons x l ihl =>
    intro h
    have h1 := h x (.head _)
    have h2 := ihl (fun y hy => h y (.tail _ hy))
    simp only [Q0.wgts, Q0.szs]; omega
  have := hl v.Items (fun x hx => ih x hx (Qcx _ h.2 x hx))
  rw [v.wgt_eq, v.sz_eq]; omega
end
end Go.Av
namespace Go.Av
noncomputable section
open Go.Proofs
set_option maxRecDepth 100000
end
end Go.Av
namespace Go.Av
noncomputable section
open Go.Proofs
set_option maxRecDepth 100000
end
end Go.Av
namespace Go.Av
noncomputable section
open Go.Proofs
set_option maxRecDepth 100000
def Vw (l : Qd) : Bool := decide (16 ≤ l.MaxPacket ∧ l.MaxPacket ≤ 1048576 ∧ 0 ≤ l.MaxDepth ∧ l.MaxDepth ≤ 32)
def Qgo (f : Q3) : Bool := decide (0 ≤ f.Channel ∧ f.Channel ≤ 65535 ∧ f.Ext.length ≤ 1012 ∧ f.Ext.length % 4 = 0)
noncomputable def Q8h (m : Int) : List Q0 → Int
 | [] => 0
 | x :: l => if J5 x m ≠ 0 then J5 x m else Q8h m l
def U9 (l : List Q0) : List UInt8 := (l.map fun x => x.nrm.byt).flatten
def Q41 (f : Q3) : Nat := 8 + f.Ext.length + (U9 f.Values).length
noncomputable def Q13 (f : Q3) (l : Qd) : Int :=
 if Vw l = false then 2 else if ¬ (f.Type' = 0 ∨ f.Type' = 1) then 8 else if Qgo f = false then 2 else if 1000 < f.Values.length then 4
 else if Q8h l.MaxDepth f.Values ≠ 0 then Q8h l.MaxDepth f.Values else if l.MaxPacket < (Q41 f : Int) then 4 else 0
def Qf3 (f : Q3) : List UInt8 := [Q2h (2 + f.Ext.length / 4 : Nat), Q2h f.Type'] ++ Q1h f.Channel.toNat 2 ++ f.Ext
def Q4v (f : Q3) : List UInt8 := Q1h (Q41 f) 4 ++ (Qf3 f ++ U9 f.Values)
structure FB (f : Q3) : Prop where
 fine : ∀ x ∈ f.Values, Fine x
 sz : Q0.szs f.Values < 160000000
 wgt : Q0.wgts f.Values < 4000000000
theorem FB.one {f : Q3} (h : FB f) : ∀ x ∈ f.Values, Fine x ∧ x.sz < 160000000 ∧ x.wgt < 4000000000 := fun x hx => by
 have h1 := Q0.szs_mem _ x hx
 have h2 := Q62 _ x hx
 have h3 := h.sz
 have h4 := h.wgt
 exact ⟨h.fine x hx, by omega, by omega⟩
theorem FB.len {f : Q3} (h : FB f) : f.Values.length < 160000000 := by
 have h1 := Q0.szs_len f.Values
 have h2 := h.sz
 omega
theorem Ql1 (l : List Q0) : (U9 l).length ≤ Q0.wgts l := by
 unfold U9
 induction l with
 | nil => simp
 | cons x l ih =>
  have h1 := (Q1i x.nrm).2.1
  rw [Qgk] at h1
  simp only [List.map_cons, List.flatten_cons, List.length_append, Q0.wgts]; omega
theorem Qf8 (l m : List Q0) : U9 (l ++ m) = U9 l ++ U9 m := by simp [U9]
theorem Ql9 (x : Q0) : U9 [x] = x.nrm.byt := by simp [U9]
theorem Qje (l : List Q0) (i : Nat) (h : i < l.length) : U9 (l.take i) ++ l[i].nrm.byt = U9 (l.take (i + 1)) := by
 rw [List.take_succ_eq_append_getElem h, Qf8, Ql9]
theorem Qoq (l : List Q0) (i : Nat) : (U9 (l.take i)).length ≤ (U9 l).length := by
 conv => rhs; rw [← List.take_append_drop i l, Qf8, List.length_append]
 omega
theorem Qbc (N : Nat) (l : Qd) : Ui N l = some (Vw l) := by
 unfold Ui Vw
 simp only [Qb, Q95, Q8l]
 repeat' split
 all_goals (congr 1; symm)
 ·rw [Bool.eq_iff_iff]; simp only [decide_eq_true_eq, Q8l]; omega
 all_goals (rw [decide_eq_false_iff_not]; omega)
theorem Qdx (N : Nat) (l : Qd) : Vs N l = some (Vw l) := Qbc N l
theorem Qq0 (N : Nat) (n : Int) : Ug N n = some (decide (n = 0 ∨ n = 1)) := by
 unfold Ug
 simp only [Qb, Vi]
 split
 ·rename_i h; simp [h]
 ·rename_i h
  congr 1
  rw [Bool.eq_iff_iff, Vi]; simp [h]
theorem Qgg {m : Int} : ∀ {l : List Q0}, Q8h m l = 0 → ∀ x ∈ l, J5 x m = 0
 | y :: l, h, x, hx => by
  rw [Q8h] at h
  split at h
  ·rename_i h1; exact absurd h h1
  ·rename_i h1
   rcases List.mem_cons.1 hx with rfl | hx
   ·exact Classical.byContradiction h1
   ·exact Qgg h x hx
theorem Qv4 (n : Nat) : ((n : Int)).tmod 4 = ((n % 4 : Nat) : Int) := by
 rw [Int.tmod_eq_emod_of_nonneg (by omega)]; omega
theorem Q5y {f : Q3} {l : Qd} (h : Q13 f l = 0) : Vw l = true ∧ (f.Type' = 0 ∨ f.Type' = 1) ∧ Qgo f = true ∧ f.Values.length ≤ 1000 ∧ (∀ x ∈ f.Values, J5 x l.MaxDepth = 0) ∧ (Q41 f : Int) ≤ l.MaxPacket := by
 unfold Q13 at h
 split at h
 ·cases h
 rename_i h1
 split at h
 ·cases h
 rename_i h2
 split at h
 ·cases h
 rename_i h3
 split at h
 ·cases h
 rename_i h4
 split at h
 ·rename_i h5; exact absurd h h5
 rename_i h5
 split at h
 ·cases h
 rename_i h6
 exact ⟨by simpa using h1, Classical.byContradiction h2, by simpa using h3, by omega, Qgg (Classical.byContradiction h5), by omega⟩
theorem Qie {f : Q3} (h : Qgo f = true) : 0 ≤ f.Channel ∧ f.Channel ≤ 65535 ∧ f.Ext.length ≤ 1012 ∧ f.Ext.length % 4 = 0 := by simpa [Qgo] using h
theorem Qtf (s : List UInt8) : (s.map fun b => (b.toNat : Int)) = Q5p s := rfl
theorem Qg0 {f : Q3} : (Qf3 f).length = 4 + f.Ext.length := by
 unfold Qf3; simp [Xy]; omega
end
end Go.Av
namespace Go.Av
noncomputable section
open Go.Proofs
set_option maxRecDepth 100000
theorem Q5x {N : Nat} (hN : N = 800000000) {f : Q3} {m : Int} (hf : FB f) (ht : f.Type' = 0 ∨ f.Type' = 1) (ho : Qgo f = true) (hv : ∀ x ∈ f.Values, J5 x m = 0) : ∀ (n i : Nat), i ≤ f.Values.length → f.Values.length - i < n →
  Yr N f m n (U9 (f.Values.take i)) (i : Int) = some (Q4v f)
 | 0, i, _, h => by omega
 | n + 1, i, hi, hn => by
  obtain ⟨o1, o2, o3, o4⟩ := Qie ho
  simp only [Yr, Qb, W2, Z7, Xz]
  have hbl := Ql1 f.Values
  have hw := hf.wgt
  have hfl := hf.len
  by_cases h : i < f.Values.length
  ·have hx := List.getElem_mem h
   obtain ⟨h1, h2, h3⟩ := hf.one _ hx
   have htk := Qje f.Values i h
   have hle := Qoq f.Values (i + 1)
   rw [← htk, List.length_append] at hle
   rw [if_pos (by omega), List.getElem?_eq_getElem h]
   simp only [Option.bind_some]
   rw [Qgt N _ _ h1 h3 (by omega) (by omega), if_neg (show ¬ (J5 f.Values[i] m ≠ 0) by simp [hv _ hx])]
   simp only [Option.bind_some]
   rw [if_pos (by simp only [Nat.ble_eq]; omega), Z1 _ (by omega), htk]
   exact_mod_cast Q5x hN hf ht ho hv n (i + 1) (by omega) (by omega)
  ·rw [if_neg (by omega), List.take_of_length_le (by omega)]
   have e3 : IntKind.u64.wrap f.Channel = ((f.Channel.toNat : Nat) : Int) := by
    have h : ((f.Channel.toNat : Nat) : Int) = f.Channel := by omega
    have h2 := J7 f.Channel.toNat (by omega)
    rw [h] at h2 ⊢; exact h2
   have p3 := Qbo N f.Channel.toNat 2 (by omega) (by omega) (by omega)
   have p4 := Qbo N (Q41 f) 4 (by unfold Q41; omega) (by omega) (by omega)
   rw [show ((2 : Nat) : Int) = 2 from rfl] at p3
   rw [show ((4 : Nat) : Int) = 4 from rfl] at p4
   have e1 : UInt8.ofNat (IntKind.u8.wrap (IntKind.i64.wrap (2 + IntKind.i64.wrap (((f.Ext.length : Int)).tdiv 4)))).toNat = Q2h (2 + f.Ext.length / 4 : Nat) := by
    have : ((f.Ext.length : Int)).tdiv 4 = ((f.Ext.length / 4 : Nat) : Int) := by
     rw [Int.tdiv_eq_ediv_of_nonneg (by omega)]; omega
    rw [this, Z1 ((f.Ext.length / 4 : Nat) : Int) (by omega), Z1 _ (by omega), Q4j (by omega)]; rfl
   have e2 : UInt8.ofNat (IntKind.u8.wrap f.Type').toNat = Q2h f.Type' := Q4j (by omega)
   rw [e3, e1, e2, p3]
   simp only [Option.bind_some]
   have hh : ([Q2h (2 + f.Ext.length / 4 : Nat), Q2h f.Type'] ++ Q1h f.Channel.toNat 2) ++ f.Ext = Qf3 f := rfl
   have hl2 : ([Q2h (2 + f.Ext.length / 4 : Nat), Q2h f.Type'] ++ Q1h f.Channel.toNat 2).length = 4 := by simp [Xy]
   rw [hh]
   have hhl := @Qg0 f
   have e5 : IntKind.u64.wrap (IntKind.i64.wrap (IntKind.i64.wrap (((Qf3 f).length : Int) + 4) + ((U9 f.Values).length : Int))) = ((Q41 f : Nat) : Int) := by
    rw [Z1 (((Qf3 f).length : Int) + 4) (by omega), Z1 _ (by omega), show ((Qf3 f).length : Int) + 4 + ((U9 f.Values).length : Int) = ((Q41 f : Nat) : Int) by unfold Q41; omega, J7 _ (by unfold Q41; omega)]
   rw [e5, p4]
   simp only [Option.bind_some]
   rw [if_pos (by simp [Nat.ble_eq, Xy]), if_pos (by simp only [Nat.ble_eq, hl2]; omega), if_pos (by simp only [Nat.ble_eq, Xy]; omega), if_pos (by simp only [Nat.ble_eq, List.length_append, Xy]; omega)]
   simp only [Q4v, List.append_assoc]
theorem Q3e {N : Nat} (hN : N = 800000000) {f : Q3} {m : Int} (hf : FB f) (ht : f.Type' = 0 ∨ f.Type' = 1) (ho : Qgo f = true) (hv : ∀ x ∈ f.Values, J5 x m = 0) : Yx N f m = some (Q4v f) := by
 have := Q5x hN hf ht ho hv N 0 (by omega) (by have := hf.len; omega)
 simp only [List.take_zero, Int.natCast_zero, U9, List.map_nil, List.flatten_nil] at this
 simpa only [Yx] using this
theorem Q6n {f : Q3} : (Q4v f).length = Q41 f := by
 have := @Qg0 f
 unfold Q4v Q41; simp only [List.length_append, Xy]; omega
theorem Q6u {N : Nat} (hN : N = 800000000) {f : Q3} {l : Qd} (hf : FB f) (ht : f.Type' = 0 ∨ f.Type' = 1) (ho : Qgo f = true) : ∀ (n i : Nat), i ≤ f.Values.length → f.Values.length - i < n → (∀ x ∈ f.Values.take i, J5 x l.MaxDepth = 0) →
  Y3 N f l n (i : Int) = some (if Q8h l.MaxDepth (f.Values.drop i) ≠ 0 then Q8h l.MaxDepth (f.Values.drop i) else if l.MaxPacket < (Q41 f : Int) then 4 else 0)
 | 0, i, _, h, _ => by omega
 | n + 1, i, hi, hn, hv => by
  simp only [Y3, Qb, W2, Q2e, Vb, Z7, Xz]
  have hfl := hf.len
  by_cases h : i < f.Values.length
  ·have hx := List.getElem_mem h
   obtain ⟨h1, h2, h3⟩ := hf.one _ hx
   rw [if_pos (by omega), List.getElem?_eq_getElem h]
   simp only [Option.bind_some]
   rw [Q4c N _ _ h1 (by omega) (by omega)]
   simp only [Option.bind_some]
   rw [List.drop_eq_getElem_cons h]
   by_cases hc : J5 f.Values[i] l.MaxDepth = 0
   ·rw [if_neg (by simp [hc]), Q8h, if_neg (show ¬ (J5 f.Values[i] l.MaxDepth ≠ 0) by simp [hc]), Z1 _ (by omega)]
    exact_mod_cast Q6u hN (l := l) hf ht ho n (i + 1) (by omega) (by omega) (fun x hx => by
     rw [List.take_succ_eq_append_getElem h] at hx
     rcases List.mem_append.1 hx with hx | hx
     ·exact hv x hx
     ·have : x = f.Values[i] := by simpa using hx
      subst this; exact hc)
   ·rw [if_pos hc, Q8h, if_pos (show J5 f.Values[i] l.MaxDepth ≠ 0 from hc), if_pos hc]
  ·rw [if_neg (by omega), List.drop_of_length_le (by omega)]
   rw [List.take_of_length_le (by omega)] at hv
   rw [Q3e hN hf ht ho hv]
   simp only [Option.bind_some, Q6n]
   by_cases h4 : l.MaxPacket < (Q41 f : Int)
   ·rw [if_pos (show (Q41 f : Int) > l.MaxPacket from h4), if_neg (show ¬ (Q8h l.MaxDepth [] ≠ 0) from fun h => h rfl), if_pos h4]
   ·rw [if_neg (show ¬ ((Q41 f : Int) > l.MaxPacket) from h4), if_neg (show ¬ (Q8h l.MaxDepth [] ≠ 0) from fun h => h rfl), if_neg h4]
theorem Q5q {N : Nat} (hN : N = 800000000) {f : Q3} {l : Qd} (hf : FB f) (ht : f.Type' = 0 ∨ f.Type' = 1) (ho : Qgo f = true) : ∀ (n i : Nat), i ≤ f.Values.length → f.Values.length - i < n → (∀ x ∈ f.Values.take i, J5 x l.MaxDepth = 0) →
  Y6 N f l n (i : Int) = some (if Q8h l.MaxDepth (f.Values.drop i) ≠ 0 then Q8h l.MaxDepth (f.Values.drop i) else if l.MaxPacket < (Q41 f : Int) then 4 else 0)
 | 0, i, _, h, _ => by omega
 | n + 1, i, hi, hn, hv => by
  simp only [Y6, Qb, W2, Q2e, Vb, Z7, Xz]
  have hfl := hf.len
  by_cases h : i < f.Values.length
  ·have hx := List.getElem_mem h
   obtain ⟨h1, h2, h3⟩ := hf.one _ hx
   rw [if_pos (by omega), List.getElem?_eq_getElem h]
   simp only [Option.bind_some]
   rw [Q4c N _ _ h1 (by omega) (by omega)]
   simp only [Option.bind_some]
   rw [List.drop_eq_getElem_cons h]
   by_cases hc : J5 f.Values[i] l.MaxDepth = 0
   ·rw [if_neg (by simp [hc]), Q8h, if_neg (show ¬ (J5 f.Values[i] l.MaxDepth ≠ 0) by simp [hc]), Z1 _ (by omega)]
    exact_mod_cast Q5q hN (l := l) hf ht ho n (i + 1) (by omega) (by omega) (fun x hx => by
     rw [List.take_succ_eq_append_getElem h] at hx
     rcases List.mem_append.1 hx with hx | hx
     ·exact hv x hx
     ·have : x = f.Values[i] := by simpa using hx
      subst this; exact hc)
   ·rw [if_pos hc, Q8h, if_pos (show J5 f.Values[i] l.MaxDepth ≠ 0 from hc), if_pos hc]
  ·rw [if_neg (by omega), List.drop_of_length_le (by omega)]
   rw [List.take_of_length_le (by omega)] at hv
   rw [Q3e hN hf ht ho hv]
   simp only [Option.bind_some, Q6n]
   by_cases h4 : l.MaxPacket < (Q41 f : Int)
   ·rw [if_pos (show (Q41 f : Int) > l.MaxPacket from h4), if_neg (show ¬ (Q8h l.MaxDepth [] ≠ 0) from fun h => h rfl), if_pos h4]
   ·rw [if_neg (show ¬ ((Q41 f : Int) > l.MaxPacket) from h4), if_neg (show ¬ (Q8h l.MaxDepth [] ≠ 0) from fun h => h rfl), if_neg h4]
theorem Qdt {N : Nat} (hN : N = 800000000) (f : Q3) (l : Qd) (hf : FB f) : Wn N f l = some (Q13 f l) := by
 simp only [Wn, Qdx, Option.bind_some, Qb, W2, Q2e, Vb, Z7, Qv4, Q13]
 cases hr : Vw l with
 | false => rfl
 | true =>
  simp only [Bool.not_true, Bool.false_eq_true, if_false, Bool.true_eq_false]
  by_cases ht : f.Type' = 0 ∨ f.Type' = 1
  ·simp only [ht, not_true_eq_false, if_false]
   have key : ∀ X Y : Option Int, (Qgo f = true → f.Values.length ≤ 1000 → X = Y) → (if f.Channel < 0 then some 2 else if f.Channel > 65535 then some 2 else if ((f.Ext.length % 4 : Nat) : Int) ≠ 0 then some 2 else if (f.Ext.length : Int) > 1012 then some 2 else if (f.Values.length : Int) > 1000 then some 4 else X) = (if Qgo f = false then some 2 else if 1000 < f.Values.length then some 4 else Y) := by
    intro X Y hXY
    cases ho : Qgo f with
    | false =>
     simp only [if_true]
     unfold Qgo at ho
     rw [decide_eq_false_iff_not] at ho
     repeat' split
     all_goals first | rfl | (exfalso; apply ho; omega)
    | true =>
     obtain ⟨o1, o2, o3, o4⟩ := Qie ho
     simp only [Bool.true_eq_false, if_false]
     rw [if_neg (by omega), if_neg (by omega), if_neg (by omega), if_neg (by omega)]
     by_cases h1 : 1000 < f.Values.length
     ·rw [if_pos (by omega), if_pos h1]
     ·rw [if_neg (by omega), if_neg h1]
      exact hXY ho (by omega)
   have hfl := hf.len
   have e1 := key (Y3 N f l N 0) (some (if Q8h l.MaxDepth f.Values ≠ 0 then Q8h l.MaxDepth f.Values else if l.MaxPacket < (Q41 f : Int) then 4 else 0)) (fun ho _ => by
    have := Q6u hN (l := l) hf ht ho N 0 (by omega) (by omega) (by simp)
    rw [List.drop_zero] at this
    exact_mod_cast this)
   have e2 := key (Y6 N f l N 0) (some (if Q8h l.MaxDepth f.Values ≠ 0 then Q8h l.MaxDepth f.Values else if l.MaxPacket < (Q41 f : Int) then 4 else 0)) (fun ho _ => by
    have := Q5q hN (l := l) hf ht ho N 0 (by omega) (by omega) (by simp)
    rw [List.drop_zero] at this
    exact_mod_cast this)
   rw [e1, e2]
   have fin : (if Qgo f = false then some 2 else if 1000 < f.Values.length then some 4 else some (if Q8h l.MaxDepth f.Values ≠ 0 then Q8h l.MaxDepth f.Values else if l.MaxPacket < (Q41 f : Int) then 4 else 0)) = some (if Qgo f = false then (2 : Int) else if 1000 < f.Values.length then 4 else if Q8h l.MaxDepth f.Values ≠ 0 then Q8h l.MaxDepth f.Values else if l.MaxPacket < (Q41 f : Int) then 4 else 0) := by
    split
    ·rfl
    ·split <;> rfl
   rw [fin]
   rcases ht with ht | ht
   ·rw [if_neg (by simp [ht])]
   ·rw [if_pos (by omega), if_neg (by simp [ht])]
  ·simp only [ht, not_false_eq_true, if_true]
   rw [if_pos (by omega), if_pos (by omega)]
theorem Qde {N : Nat} (hN : N = 800000000) (f : Q3) (l : Qd) (hf : FB f) : Ws N f l = some (if Q13 f l ≠ 0 then ([], Q13 f l) else (Q4v f, 0)) := by
 simp only [Ws, Qdt hN f l hf, Option.bind_some, Qb, Vb]
 by_cases h : Q13 f l = 0
 ·obtain ⟨c1, c2, c3, c4, c5, c6⟩ := Q5y h
  rw [if_neg (by simp [h]), if_neg (by simp [h]), Q3e hN hf c2 c3 c5]; rfl
 ·rw [if_pos h, if_pos h]
def Q3.nrm (f : Q3) : Q3 := ⟨f.Type', f.Channel, f.Ext, f.Values.map Q0.nrm⟩
theorem Q7w {N : Nat} (hN : N = 800000000) {f : Q3} (hf : FB f) : ∀ (n i : Nat), i ≤ f.Values.length → f.Values.length - i < n → Xb N f n (i : Int) ((f.Values.take i).map Q0.nrm) = some f.nrm
 | 0, i, _, h => by omega
 | n + 1, i, hi, hn => by
  have hfl := hf.len
  simp only [Xb, Qb, W2, Z7, Xz]
  by_cases h : i < f.Values.length
  ·obtain ⟨h1, h2, h3⟩ := hf.one _ (List.getElem_mem h)
   rw [if_pos (by omega), List.getElem?_eq_getElem h]
   simp only [Option.bind_some]
   rw [Q79 N _ h1 (by omega) (by omega)]
   simp only [Option.bind_some]
   rw [if_pos (by rw [Nat.ble_eq, List.length_map, List.length_take]; omega), Z1 _ (by omega)]
   have e : (f.Values.take i).map Q0.nrm ++ [f.Values[i].nrm] = (f.Values.take (i + 1)).map Q0.nrm := by
    rw [List.take_succ_eq_append_getElem h, List.map_append]; rfl
   rw [e]
   exact_mod_cast Q7w hN hf n (i + 1) (by omega) (by omega)
  ·rw [if_neg (by omega), List.take_of_length_le (by omega)]; rfl
theorem Qge {N : Nat} (hN : N = 800000000) (f : Q3) (hf : FB f) : V9 N f = some f.nrm := by
 have := Q7w hN hf N 0 (by omega) (by have := hf.len; omega)
 simp only [List.take_zero, List.map_nil, Int.natCast_zero] at this
 simpa only [V9] using this
theorem Q3.ext' {a b : Q3} (h1 : a.Type' = b.Type') (h2 : a.Channel = b.Channel) (h3 : a.Ext = b.Ext) (h4 : a.Values = b.Values) : a = b := by cases a; cases b; simp_all
noncomputable instance : DecidableEq Q3 := fun a b => decidable_of_iff (a.Type' = b.Type' ∧ a.Channel = b.Channel ∧ a.Ext = b.Ext ∧ a.Values = b.Values) ⟨fun h => Q3.ext' h.1 h.2.1 h.2.2.1 h.2.2.2, fun h => by rw [h]; exact ⟨rfl, rfl, rfl, rfl⟩⟩
theorem Qq9 (l m : List Q0) (i : Nat) (h : i < l.length) (h' : i < m.length) : decide (l.drop i = m.drop i) = (decide (l[i] = m[i]) && decide (l.drop (i + 1) = m.drop (i + 1))) := by
 rw [List.drop_eq_getElem_cons h, List.drop_eq_getElem_cons h', Bool.eq_iff_iff]
 simp only [decide_eq_true_eq, Bool.and_eq_true, List.cons.injEq]
theorem Qht {N : Nat} (hN : N = 800000000) {a b : Q3} (ha : Q0.szs a.Values < 700000000) (hl : a.Values.length = b.Values.length) : ∀ (n i : Nat), i ≤ a.Values.length → a.Values.length - i < n → Zb N a b n (i : Int) = some (decide (a.Values.drop i = b.Values.drop i))
 | 0, i, _, h => by omega
 | n + 1, i, hi, hn => by
  have hs := Q0.szs_len a.Values
  simp only [Zb, Qb, W2, Z7, Xz]
  by_cases h : i < a.Values.length
  ·have h' : i < b.Values.length := by omega
   have hx := Q0.szs_mem _ _ (List.getElem_mem h)
   rw [if_pos (by omega), List.getElem?_eq_getElem h, List.getElem?_eq_getElem h']
   simp only [Option.bind_some]
   rw [Q8e N _ _ (by omega) (by omega), Qq9 _ _ i h h']
   simp only [Option.bind_some]
   rw [Z1 _ (by omega)]
   have ih := Qht hN ha hl n (i + 1) (by omega) (by omega)
   have ih : Zb N a b n ((i : Int) + 1) = some (decide (a.Values.drop (i + 1) = b.Values.drop (i + 1))) := by exact_mod_cast ih
   rw [ih]
   cases decide (a.Values[i] = b.Values[i]) <;> rfl
  ·rw [if_neg (by omega), List.drop_of_length_le (by omega), List.drop_of_length_le (by omega)]; rfl
theorem Qpj {N : Nat} (hN : N = 800000000) (a b : Q3) (ha : Q0.szs a.Values < 700000000) : W3 N a b = some (decide (a = b)) := by
 have hs := Q0.szs_len a.Values
 simp only [W3, Qb, Vb, Gv, Z7]
 by_cases h1 : a.Type' = b.Type'
 ·rw [if_neg (by simp [h1])]
  by_cases h2 : a.Channel = b.Channel
  ·rw [if_neg (by simp [h2])]
   by_cases h3 : a.Ext = b.Ext
   ·rw [if_neg (by simp [h3])]
    by_cases h4 : a.Values.length = b.Values.length
    ·rw [if_neg (by simp [h4])]
     have := Qht hN ha h4 N 0 (by omega) (by omega)
     rw [List.drop_zero, List.drop_zero] at this
     have : Zb N a b N 0 = some (decide (a.Values = b.Values)) := by exact_mod_cast this
     rw [this]
     congr 1
     rw [Bool.eq_iff_iff]
     simp only [decide_eq_true_eq]
     exact ⟨fun h => Q3.ext' h1 h2 h3 h, fun h => by rw [h]⟩
    ·rw [if_pos (by omega), decide_eq_false (fun h => h4 (by rw [h]))]
   ·rw [if_pos h3, decide_eq_false (fun h => h3 (by rw [h]))]
  ·rw [if_pos h2, decide_eq_false (fun h => h2 (by rw [h]))]
 ·rw [if_pos h1, decide_eq_false (fun h => h1 (by rw [h]))]
theorem Qei {N : Nat} (hN : N = 800000000) {f : Q3} (hl : f.Values.length ≤ 6) : ∀ (n i : Nat), i ≤ f.Values.length → f.Values.length - i < n → ∃ b, Y1 N f n (i : Int) = some b ∧ (b = true → ∀ x ∈ f.Values.drop i, x.sz ≤ 40 ∧ x.txt)
 | 0, i, _, h => by omega
 | n + 1, i, hi, hn => by
  simp only [Y1, Qb, W2, Z7, Xz]
  by_cases h : i < f.Values.length
  ·rw [if_pos (by omega), List.getElem?_eq_getElem h]
   obtain ⟨b1, l1, l2⟩ := Qkd N f.Values[i] (by omega)
   simp only [Option.bind_some, l1]
   cases b1 with
   | false => exact ⟨false, rfl, fun h => by cases h⟩
   | true =>
    rw [Z1 _ (by omega)]
    obtain ⟨b, e1, e2⟩ := Qei hN hl n (i + 1) (by omega) (by omega)
    refine ⟨b, ?_, fun hb x hx => ?_⟩
    ·simp only [Bool.not_true, Bool.false_eq_true, if_false]; exact_mod_cast e1
    ·rw [List.drop_eq_getElem_cons h] at hx
     rcases List.mem_cons.1 hx with rfl | hx
     ·exact l2 rfl
     ·exact e2 hb x hx
  ·rw [if_neg (by omega), List.drop_of_length_le (by omega)]
   exact ⟨true, rfl, fun _ x hx => by cases hx⟩
theorem Qgp {N : Nat} (hN : N = 800000000) (f : Q3) : ∃ b, Xs N f = some b ∧ (b = true → f.Values.length ≤ 6 ∧ f.Ext.length ≤ 1100 ∧ ∀ x ∈ f.Values, x.sz ≤ 40 ∧ x.txt) := by
 simp only [Xs, Qb, Q2e, Z7]
 by_cases h1 : (f.Values.length : Int) > 6
 ·rw [if_pos h1]; exact ⟨false, rfl, fun h => by cases h⟩
 ·rw [if_neg h1]
  by_cases h2 : (f.Ext.length : Int) > 1100
  ·rw [if_pos h2]; exact ⟨false, rfl, fun h => by cases h⟩
  ·rw [if_neg h2]
   obtain ⟨b, e1, e2⟩ := Qei hN (f := f) (by omega) N 0 (by omega) (by omega)
   refine ⟨b, by exact_mod_cast e1, fun hb => ⟨by omega, by omega, ?_⟩⟩
   have := e2 hb
   rwa [List.drop_zero] at this
theorem Qc8 : ∀ (l : List Q0), (∀ x ∈ l, x.sz ≤ 40 ∧ x.txt) → Q0.szs l ≤ 40 * l.length ∧ Q0.wgts l ≤ 17200 * l.length
 | [], _ => by simp [Q0.szs, Q0.wgts]
 | x :: m, h => by
  have h1 := h x (.head _)
  have h2 := Qc8 m (fun y hy => h y (.tail _ hy))
  have h3 := Qs0 x h1.2
  simp only [Q0.szs, Q0.wgts, List.length_cons]; omega
theorem Qop {f : Q3} (hl : f.Values.length ≤ 6) (h : ∀ x ∈ f.Values, x.sz ≤ 40 ∧ x.txt) (hv : ∀ x ∈ f.Values, OkV x) : FB f := by
 obtain ⟨h1, h2⟩ := Qc8 _ h
 exact ⟨fun x hx => Qs5 x (hv x hx) (h x hx).2, by omega, by omega⟩
end
end Go.Av
namespace Go.Av
noncomputable section
open Go.Proofs
set_option maxRecDepth 100000
def Qdd : Q3 := ⟨0, 0, [], []⟩
def Wu (s : List UInt8) (l : Qd) : Int × Int :=
 if Vw l = false then (0, 2) else if s.length < 8 then (0, 3) else if l.MaxPacket < (J6 (s.take 4) : Int) then (0, 4)
 else if J6 (s.take 4) < 8 ∨ (s.getD 4 0).toNat < 2 ∨ J6 (s.take 4) < 4 * (s.getD 4 0).toNat then (0, 5)
 else if 1 < (s.getD 5 0).toNat then (0, 8) else ((J6 (s.take 4) : Int), 0)
def Gx (rd : List UInt8 → Rd) : Nat → List UInt8 → List Q0 → List Q0 × Int
 | 0, _, _ => ([], 0)
 | k + 1, s, acc => if s = [] then (acc, 0) else if acc.length = 1000 then ([], 4) else if (rd s).2.2 = 3 then ([], 5) else if (rd s).2.2 ≠ 0 then ([], (rd s).2.2) else Gx rd k (s.drop (rd s).2.1.toNat) (acc ++ [(rd s).1])
def Qrd (q : List Q0 × Int) (r : List Q0 → Q3 × Int × Int) : Q3 × Int × Int := if q.2 ≠ 0 then (Qdd, 0, q.2) else r q.1
theorem Qle (l : List Q0) (r : List Q0 → Q3 × Int × Int) : Qrd (l, 0) r = r l := if_neg (fun h => h rfl)
theorem Qds (l : List Q0) {e : Int} (h : e ≠ 0) (r : List Q0 → Q3 × Int × Int) : Qrd (l, e) r = (Qdd, 0, e) := if_pos h
def Q67 (s : List UInt8) (n : Nat) : List UInt8 := (s.take n).drop (4 * (s.getD 4 0).toNat)
noncomputable def Q66 (s : List UInt8) (n : Nat) (m : Nat) : Q3 × Int × Int :=
 Qrd (Gx (Yz (U8 m)) ((Q67 s n).length + 1) (Q67 s n) []) fun vs => (⟨((s.getD 5 0).toNat : Int), (J6 ((s.take 8).drop 6) : Int), (s.take (4 * (s.getD 4 0).toNat)).drop 8, vs⟩, (n : Int), 0)
noncomputable def Zl (s : List UInt8) (l : Qd) : Q3 × Int × Int :=
 if (Wu s l).2 ≠ 0 then (Qdd, 0, (Wu s l).2) else if s.length < J6 (s.take 4) then (Qdd, 0, 3) else Q66 s (J6 (s.take 4)) l.MaxDepth.toNat
theorem Qoy {s : List UInt8} (h : 8 ≤ s.length) : ∃ a0 a1 a2 a3 a4 a5 a6 a7 t, s = a0 :: a1 :: a2 :: a3 :: a4 :: a5 :: a6 :: a7 :: t := by
 match s, h with
 | a0 :: a1 :: a2 :: a3 :: a4 :: a5 :: a6 :: a7 :: t, _ => exact ⟨a0, a1, a2, a3, a4, a5, a6, a7, t, rfl⟩
theorem Qq3 (b : UInt8) : UInt8.ofNat ((b.toNat : Int)).toNat = b := by simp
theorem Qn3 (b : UInt8) : IntKind.i64.wrap (b.toNat : Int) = ((b.toNat : Nat) : Int) := by
 have := b.toNat_lt
 rw [Z1 _ (by omega)]
theorem Qvn (b : UInt8) : IntKind.u64.wrap (b.toNat : Int) = ((b.toNat : Nat) : Int) := by
 have := b.toNat_lt
 exact J7 _ (by omega)
theorem Qcw {l : Qd} (h : Vw l = true) : 16 ≤ l.MaxPacket ∧ l.MaxPacket ≤ 1048576 ∧ 0 ≤ l.MaxDepth ∧ l.MaxDepth ≤ 32 := by simpa [Vw] using h
theorem Qwn (a b c d : UInt8) : J6 [a, b, c, d] < 4294967296 := by
 have := Q2w [a, b, c, d]
 simpa using this
theorem Qxk (a b : UInt8) : J6 [a, b] < 65536 := by
 have := Q2w [a, b]
 simpa using this
theorem Q6w {s : List UInt8} {l : Qd} (h : (Wu s l).2 = 0) : Vw l = true ∧ 8 ≤ s.length ∧ (J6 (s.take 4) : Int) ≤ l.MaxPacket ∧ 8 ≤ J6 (s.take 4) ∧ 2 ≤ (s.getD 4 0).toNat ∧ 4 * (s.getD 4 0).toNat ≤ J6 (s.take 4) ∧ (s.getD 5 0).toNat ≤ 1 ∧ Wu s l = ((J6 (s.take 4) : Int), 0) := by
 unfold Wu at h ⊢
 split at h
 ·cases h
 rename_i h1; rw [if_neg h1]
 split at h
 ·cases h
 rename_i h2; rw [if_neg h2]
 split at h
 ·cases h
 rename_i h3; rw [if_neg h3]
 split at h
 ·cases h
 rename_i h4; rw [if_neg h4]
 split at h
 ·cases h
 rename_i h5; rw [if_neg h5]
 exact ⟨by simpa using h1, by omega, by omega, by omega, by omega, by omega, by omega, rfl⟩
theorem Qhk {N : Nat} (hN : N = 800000000) (s : List UInt8) (l : Qd) : W4 N s l = some (Wu s l) := by
 simp only [W4, Qbc, Option.bind_some, Qb, W2, Q2e, Wu]
 cases hr : Vw l with
 | false => rfl
 | true =>
  obtain ⟨r1, r2, r3, r4⟩ := Qcw hr
  simp only [Bool.not_true, Bool.false_eq_true, if_false, Bool.true_eq_false]
  by_cases h8 : s.length < 8
  ·rw [if_pos (by omega), if_pos h8]
  rw [if_neg (by omega), if_neg h8]
  obtain ⟨a0, a1, a2, a3, a4, a5, a6, a7, t, rfl⟩ := Qoy (s := s) (by omega)
  have i0 : idx (a0 :: a1 :: a2 :: a3 :: a4 :: a5 :: a6 :: a7 :: t) 0 = some a0 := rfl
  have i1 : idx (a0 :: a1 :: a2 :: a3 :: a4 :: a5 :: a6 :: a7 :: t) 1 = some a1 := rfl
  have i2 : idx (a0 :: a1 :: a2 :: a3 :: a4 :: a5 :: a6 :: a7 :: t) 2 = some a2 := rfl
  have i3 : idx (a0 :: a1 :: a2 :: a3 :: a4 :: a5 :: a6 :: a7 :: t) 3 = some a3 := rfl
  have i4 : idx (a0 :: a1 :: a2 :: a3 :: a4 :: a5 :: a6 :: a7 :: t) 4 = some a4 := rfl
  have i5 : idx (a0 :: a1 :: a2 :: a3 :: a4 :: a5 :: a6 :: a7 :: t) 5 = some a5 := rfl
  have i6 : idx (a0 :: a1 :: a2 :: a3 :: a4 :: a5 :: a6 :: a7 :: t) 6 = some a6 := rfl
  have i7 : idx (a0 :: a1 :: a2 :: a3 :: a4 :: a5 :: a6 :: a7 :: t) 7 = some a7 := rfl
  have e0 : (a0 :: a1 :: a2 :: a3 :: a4 :: a5 :: a6 :: a7 :: t).take 4 = [a0, a1, a2, a3] := rfl
  have e4 : (a0 :: a1 :: a2 :: a3 :: a4 :: a5 :: a6 :: a7 :: t).getD 4 0 = a4 := rfl
  have e5 : (a0 :: a1 :: a2 :: a3 :: a4 :: a5 :: a6 :: a7 :: t).getD 5 0 = a5 := rfl
  have b4 := a4.toNat_lt
  have b5 := a5.toNat_lt
  have bn := Qwn a0 a1 a2 a3
  rw [i0, i1, i2, i3, i4, i5, i6, i7, e0, e4, e5]
  simp only [Option.bind_some, Qq3, Qn3, Qvn]
  rw [Qa4 N [a0, a1, a2, a3] (by simp) (by omega)]
  have ew : IntKind.u64.wrap l.MaxPacket = l.MaxPacket := by
   have h : ((l.MaxPacket.toNat : Nat) : Int) = l.MaxPacket := by omega
   have h2 := J7 l.MaxPacket.toNat (by omega)
   rw [h] at h2; exact h2
  have e4w : IntKind.u64.wrap ((a4.toNat : Int) * 4) = ((4 * a4.toNat : Nat) : Int) := by
   rw [show ((a4.toNat : Int) * 4) = ((4 * a4.toNat : Nat) : Int) by omega, J7 _ (by omega)]
  simp only [Option.bind_some, ew, e4w, Qq0]
  generalize J6 [a0, a1, a2, a3] = n at bn ⊢
  by_cases c1 : l.MaxPacket < (n : Int)
  ·rw [if_pos (by omega), if_pos c1]
  rw [if_neg (by omega), if_neg c1]
  by_cases c2 : n < 8 ∨ a4.toNat < 2 ∨ n < 4 * a4.toNat
  ·rw [if_pos c2]
   repeat' split
   all_goals first | rfl | omega
  rw [if_neg c2, if_neg (by omega), if_neg (by omega), if_neg (by omega)]
  by_cases c3 : 1 < a5.toNat
  ·rw [if_pos c3, decide_eq_false (by omega)]; rfl
  ·rw [if_neg c3, decide_eq_true (by omega)]
   simp only [Bool.not_true, Bool.false_eq_true, if_false]
   rw [Z1 _ (by omega)]
theorem Qaq {rd : List UInt8 → Rd} (hg : ∀ s, s.length ≤ 600000 → (rd s).2.2 = 0 → 1 ≤ (rd s).2.1) : ∀ (k k' : Nat) (s : List UInt8) (acc : List Q0), s.length ≤ 600000 → s.length < k → s.length < k' → Gx rd k s acc = Gx rd k' s acc
 | 0, _, s, acc, _, h, _ => by omega
 | k + 1, 0, s, acc, _, _, h => by omega
 | k + 1, k' + 1, s, acc, hs, h1, h2 => by
  simp only [Gx]
  by_cases h0 : s = []
  ·rw [if_pos h0, if_pos h0]
  rw [if_neg h0, if_neg h0]
  by_cases h3 : acc.length = 1000
  ·rw [if_pos h3, if_pos h3]
  rw [if_neg h3, if_neg h3]
  by_cases h4 : (rd s).2.2 = 3
  ·rw [if_pos h4, if_pos h4]
  rw [if_neg h4, if_neg h4]
  by_cases h5 : (rd s).2.2 = 0
  ·rw [if_neg (by simp [h5]), if_neg (by simp [h5])]
   have := hg s hs h5
   have hl : 0 < s.length := List.length_pos_iff.2 h0
   exact Qaq hg k k' _ _ (by rw [List.length_drop]; omega) (by rw [List.length_drop]; omega) (by rw [List.length_drop]; omega)
  ·rw [if_pos h5, if_pos h5]
theorem Qci (m : Nat) : ∀ s : List UInt8, s.length ≤ 600000 → (Yz (U8 m) s).2.2 = 0 → 1 ≤ (Yz (U8 m) s).2.1 := fun s hs he => by
 have := (Q2f (Q22 m)).2 s hs he
 omega
theorem Qnc {N : Nat} (hN : N = 800000000) {s0 : List UInt8} {l : Qd} {m : Nat} (hm : l.MaxDepth = (m : Int)) (hm2 : m ≤ 32) {v1 : Int × Int} {b5 b7 : UInt8} {v10 : Int} : ∀ (n : Nat) (left : List UInt8) (acc : List Q0), left.length ≤ 600000 → left.length < n → acc.length ≤ 1000 →
  Wx N s0 l v1 b5 b7 v10 n left acc = some (Qrd (Gx (Yz (U8 m)) n left acc) fun vs => (⟨IntKind.i64.wrap (b7.toNat : Int), IntKind.i64.wrap v10, (s0.take (IntKind.i64.wrap (4 * IntKind.i64.wrap (b5.toNat : Int))).toNat).drop 8, vs⟩, v1.1, 0))
 | 0, left, acc, _, h, _ => by omega
 | n + 1, left, acc, hl, hn, ha => by
  simp only [Wx, Qb, Gv, Vi, Vb, Gx, hm]
  by_cases h0 : left = []
  ·rw [if_neg (by simp [h0]), if_pos h0, Qle]
  rw [if_pos h0, if_neg h0]
  by_cases h3 : acc.length = 1000
  ·rw [if_pos (by omega), if_pos h3, Qds _ (by decide)]; rfl
  rw [if_neg (by omega), if_neg h3, Qtt m N left hm2 (by omega) hl]
  simp only [Option.bind_some]
  by_cases h4 : (Yz (U8 m) left).2.2 = 3
  ·rw [if_pos h4, if_pos h4, Qds _ (by decide)]; rfl
  rw [if_neg h4, if_neg h4]
  by_cases h5 : (Yz (U8 m) left).2.2 = 0
  ·rw [if_neg (show ¬ ((Yz (U8 m) left).2.2 ≠ 0) by simp [h5]), if_neg (show ¬ ((Yz (U8 m) left).2.2 ≠ 0) by simp [h5])]
   have g1 := Qci m left hl h5
   have g2 := ((Q2f (Q22 m)).1 left hl h5).2.1
   have hp : 0 < left.length := List.length_pos_iff.2 h0
   rw [if_pos (by rw [Nat.ble_eq]; omega), if_pos (by simp; omega), if_pos (by simp [Nat.ble_eq]; omega), List.take_length]
   exact Qnc hN hm hm2 n _ _ (by rw [List.length_drop]; omega) (by rw [List.length_drop]; omega) (by simp; omega)
  ·rw [if_pos h5, if_pos (show (Yz (U8 m) left).2.2 ≠ 0 from h5), Qds _ h5]; rfl
theorem Qmx {N : Nat} (hN : N = 800000000) (s : List UInt8) (l : Qd) (hs : s.length ≤ 600000) : Ux N s l = some (Zl s l) := by
 simp only [Ux, Qhk hN, Option.bind_some, Qb, Vb, W2, Zl]
 by_cases he : (Wu s l).2 = 0
 ·rw [if_neg (show ¬ ((Wu s l).2 ≠ 0) from fun h => h he), if_neg (show ¬ ((Wu s l).2 ≠ 0) from fun h => h he)]
  obtain ⟨q1, q2, q3, q4, q5, q6, q7, q8⟩ := Q6w he
  obtain ⟨r1, r2, r3, r4⟩ := Qcw q1
  rw [q8]
  simp only []
  by_cases hl : s.length < J6 (s.take 4)
  ·rw [if_pos (by omega), if_pos hl]; rfl
  rw [if_neg (by omega), if_neg hl]
  obtain ⟨a0, a1, a2, a3, a4, a5, a6, a7, t, rfl⟩ := Qoy q2
  have i4 : idx (a0 :: a1 :: a2 :: a3 :: a4 :: a5 :: a6 :: a7 :: t) 4 = some a4 := rfl
  have i5 : idx (a0 :: a1 :: a2 :: a3 :: a4 :: a5 :: a6 :: a7 :: t) 5 = some a5 := rfl
  have e6 : ((a0 :: a1 :: a2 :: a3 :: a4 :: a5 :: a6 :: a7 :: t).take 8).drop 6 = [a6, a7] := rfl
  have e4 : (a0 :: a1 :: a2 :: a3 :: a4 :: a5 :: a6 :: a7 :: t).getD 4 0 = a4 := rfl
  have e5 : (a0 :: a1 :: a2 :: a3 :: a4 :: a5 :: a6 :: a7 :: t).getD 5 0 = a5 := rfl
  have b4 := a4.toNat_lt
  have b7 := Qxk a6 a7
  rw [e4] at q5 q6
  have ew : IntKind.i64.wrap (4 * IntKind.i64.wrap (a4.toNat : Int)) = ((4 * a4.toNat : Nat) : Int) := by
   rw [Qn3, Z1 _ (by omega)]; push_cast; rfl
  rw [i4, i5]
  simp only [Option.bind_some, ew, Int.toNat_natCast]
  rw [if_pos (by simp [Nat.ble_eq]), e6, Qa4 N [a6, a7] (by simp) (by omega)]
  simp only [Option.bind_some]
  rw [if_pos (by rw [decide_eq_true_eq]; omega), if_pos (by simp only [Nat.ble_eq, Bool.and_eq_true]; omega), if_pos (by rw [decide_eq_true_eq]; omega), if_pos (by simp only [Nat.ble_eq, Bool.and_eq_true]; omega)]
  have hm : l.MaxDepth = ((l.MaxDepth.toNat : Nat) : Int) := by omega
  have hdl : (((a0 :: a1 :: a2 :: a3 :: a4 :: a5 :: a6 :: a7 :: t).take (J6 ((a0 :: a1 :: a2 :: a3 :: a4 :: a5 :: a6 :: a7 :: t).take 4))).drop (4 * a4.toNat)).length ≤ 600000 := by
   rw [List.length_drop, List.length_take]; omega
  rw [Qnc hN hm (by omega) N _ _ hdl (by omega) (by simp)]
  unfold Q66 Q67
  rw [e4, e5, e6, Qaq (Qci _) N (_ + 1) _ [] hdl (by rw [hN]; omega) (Nat.lt_succ_self _), ew, Qn3]
  simp only [Int.toNat_natCast, Z1 ((J6 [a6, a7] : Nat) : Int) (by omega)]
 ·rw [if_pos he, if_pos he]; rfl
end
end Go.Av
namespace Go.Av
noncomputable section
open Go.Proofs
set_option maxRecDepth 100000
theorem Qc7 {rd : List UInt8 → Rd} (hg : ∀ s, s.length ≤ 600000 → (rd s).2.2 = 0 → 1 ≤ (rd s).2.1 ∧ (rd s).2.1 ≤ s.length ∧ (rd s).1.sz ≤ 1 + 1000 * (rd s).2.1.toNat) : ∀ (k : Nat) (s : List UInt8) (acc : List Q0), s.length ≤ 600000 → Q0.szs (Gx rd k s acc).1 ≤ Q0.szs acc + 1001 * s.length
 | 0, s, acc, _ => by simp [Gx, Q0.szs]
 | k + 1, s, acc, hs => by
  rw [Gx]
  split
  ·simp
  split
  ·simp [Q0.szs]
  split
  ·simp [Q0.szs]
  split
  ·simp [Q0.szs]
  rename_i h5
  obtain ⟨g1, g2, g3⟩ := hg s hs (Classical.byContradiction h5)
  have := Qc7 hg k (s.drop (rd s).2.1.toNat) (acc ++ [(rd s).1]) (by rw [List.length_drop]; omega)
  rw [Q0.szs_app, List.length_drop] at this
  simp only [Q0.szs] at this
  omega
theorem Ql3 (m : Nat) : ∀ s : List UInt8, s.length ≤ 600000 → (Yz (U8 m) s).2.2 = 0 → 1 ≤ (Yz (U8 m) s).2.1 ∧ (Yz (U8 m) s).2.1 ≤ s.length ∧ (Yz (U8 m) s).1.sz ≤ 1 + 1000 * (Yz (U8 m) s).2.1.toNat := fun s hs he => by
 have h1 := (Q2f (Q22 m)).1 s hs he
 exact ⟨Qci m s hs he, h1.2.1, h1.2.2⟩
theorem Qmy (s : List UInt8) (n : Nat) : (Q67 s n).length ≤ s.length := by
 unfold Q67
 rw [List.length_drop, List.length_take]; omega
theorem Qjf (s : List UInt8) (n m : Nat) (hs : s.length ≤ 600000) : Q0.szs (Q66 s n m).1.Values ≤ 1001 * s.length := by
 have hb := Qmy s n
 have := Qc7 (Ql3 m) ((Q67 s n).length + 1) (Q67 s n) [] (by omega)
 unfold Q66 Qrd
 split
 ·simp [Qdd, Q0.szs]
 ·simp only [Q0.szs] at this
  show Q0.szs (Gx (Yz (U8 m)) ((Q67 s n).length + 1) (Q67 s n) []).1 ≤ _
  omega
theorem Ql6 (s : List UInt8) (l : Qd) (hs : s.length ≤ 600000) : Q0.szs (Zl s l).1.Values ≤ 1001 * s.length := by
 unfold Zl
 split
 ·simp [Qdd, Q0.szs]
 split
 ·simp [Qdd, Q0.szs]
 ·exact Qjf s _ _ hs
end
end Go.Av
namespace Go.Av
noncomputable section
open Go.Proofs
set_option maxRecDepth 100000
theorem Qmn {s s' : List UInt8} (l : Qd) (h : 8 ≤ s.length) (h' : 8 ≤ s'.length) (e : s.take 8 = s'.take 8) : Wu s l = Wu s' l := by
 obtain ⟨a0, a1, a2, a3, a4, a5, a6, a7, t, rfl⟩ := Qoy h
 obtain ⟨b0, b1, b2, b3, b4, b5, b6, b7, t', rfl⟩ := Qoy h'
 simp only [List.take_succ_cons, List.take_zero, List.cons.injEq, and_true] at e
 obtain ⟨rfl, rfl, rfl, rfl, rfl, rfl, rfl, rfl⟩ := e
 unfold Wu
 rw [if_neg (show ¬ (_ < 8) by simp), if_neg (show ¬ ((a0 :: a1 :: a2 :: a3 :: a4 :: a5 :: a6 :: a7 :: t').length < 8) by simp)]
 rfl
theorem Qbe {m : Nat} : ∀ (l : List Q0) (k : Nat) (acc : List Q0), (∀ x ∈ l, Fine x ∧ U4 x m = 0 ∧ x.wgt < 4000000000) → acc.length + l.length ≤ 1000 → (U9 l).length < k → Gx (Yz (U8 m)) k (U9 l) acc = (acc ++ l.map Q0.nrm, 0)
 | [], k + 1, acc, _, _, _ => by simp [U9, Gx]
 | x :: l, 0, acc, _, _, h => by omega
 | x :: l, k + 1, acc, hx, hl, hk => by
  obtain ⟨h1, h2, h3⟩ := hx x (.head _)
  have e : U9 (x :: l) = x.nrm.byt ++ U9 l := by simp [U9]
  have hb := (Qoz x.nrm m (Qic h1) (Qeq x m h2) (by rw [Qgk]; exact h3)).2 (U9 l)
  have hp := Qrr x.nrm
  rw [e, List.length_append] at hk
  simp only [List.length_cons] at hl
  rw [e, Gx, if_neg (by intro h; have := congrArg List.length h; rw [List.length_append, List.length_nil] at this; omega), if_neg (by omega), hb, if_neg (by simp), if_neg (by simp)]
  simp only [Int.toNat_natCast]
  rw [List.drop_left, Qbe l k (acc ++ [x.nrm]) (fun y hy => hx y (.tail _ hy)) (by simp; omega) (by omega)]
  simp
theorem Qvr {l : List UInt8} (h : l.length = 4) : ∃ a b c d, l = [a, b, c, d] := by
 match l, h with
 | [a, b, c, d], _ => exact ⟨a, b, c, d, rfl⟩
theorem Qvo {l : List UInt8} (h : l.length = 2) : ∃ a b, l = [a, b] := by
 match l, h with
 | [a, b], _ => exact ⟨a, b, rfl⟩
theorem Qkr {f : Q3} (ho : Qgo f = true) (ht : f.Type' = 0 ∨ f.Type' = 1) (hw : Q41 f < 4294967296) (t : List UInt8) : ∃ x0 x1 x2 x3 c0 c1 a b : UInt8, Q4v f ++ t = x0 :: x1 :: x2 :: x3 :: a :: b :: c0 :: c1 :: (f.Ext ++ (U9 f.Values ++ t)) ∧
  J6 [x0, x1, x2, x3] = Q41 f ∧ (J6 [c0, c1] : Int) = f.Channel ∧ a.toNat = 2 + f.Ext.length / 4 ∧ (b.toNat : Int) = f.Type' := by
 obtain ⟨o1, o2, o3, o4⟩ := Qie ho
 obtain ⟨x0, x1, x2, x3, e1⟩ := Qvr (Xy 4 (Q41 f))
 obtain ⟨c0, c1, e2⟩ := Qvo (Xy 2 f.Channel.toNat)
 refine ⟨x0, x1, x2, x3, c0, c1, Q2h (2 + f.Ext.length / 4 : Nat), Q2h f.Type', ?_, ?_, ?_, ?_, ?_⟩
 ·unfold Q4v Qf3
  rw [e1, e2]; simp
 ·rw [← e1, Q2z, Nat.mod_eq_of_lt (by omega)]
 ·rw [← e2, Q2z, Nat.mod_eq_of_lt (by omega)]; omega
 ·have := Q40 (c := ((2 + f.Ext.length / 4 : Nat) : Int)) (by omega)
  omega
 ·exact Q40 (by omega)
theorem Qlp {f : Q3} {l : Qd} (hf : FB f) (hc : Q13 f l = 0) (t : List UInt8) : Wu (Q4v f ++ t) l = ((Q41 f : Int), 0) ∧ Zl (Q4v f ++ t) l = (f.nrm, (Q41 f : Int), 0) := by
 obtain ⟨c1, c2, c3, c4, c5, c6⟩ := Q5y hc
 obtain ⟨r1, r2, r3, r4⟩ := Qcw c1
 obtain ⟨o1, o2, o3, o4⟩ := Qie c3
 have htot : 8 + f.Ext.length + (U9 f.Values).length = Q41 f := rfl
 obtain ⟨x0, x1, x2, x3, d0, d1, a, b, e, n1, n2, n3, n4⟩ := Qkr c3 c2 (by omega) t
 rw [e]
 have i0 : (x0 :: x1 :: x2 :: x3 :: a :: b :: d0 :: d1 :: (f.Ext ++ (U9 f.Values ++ t))).take 4 = [x0, x1, x2, x3] := rfl
 have i4 : (x0 :: x1 :: x2 :: x3 :: a :: b :: d0 :: d1 :: (f.Ext ++ (U9 f.Values ++ t))).getD 4 0 = a := rfl
 have i5 : (x0 :: x1 :: x2 :: x3 :: a :: b :: d0 :: d1 :: (f.Ext ++ (U9 f.Values ++ t))).getD 5 0 = b := rfl
 have i6 : ((x0 :: x1 :: x2 :: x3 :: a :: b :: d0 :: d1 :: (f.Ext ++ (U9 f.Values ++ t))).take 8).drop 6 = [d0, d1] := rfl
 have i8 : (x0 :: x1 :: x2 :: x3 :: a :: b :: d0 :: d1 :: (f.Ext ++ (U9 f.Values ++ t))).drop 8 = f.Ext ++ (U9 f.Values ++ t) := rfl
 have ha : 4 * a.toNat = 8 + f.Ext.length := by omega
 have hh : Wu (x0 :: x1 :: x2 :: x3 :: a :: b :: d0 :: d1 :: (f.Ext ++ (U9 f.Values ++ t))) l = ((Q41 f : Int), 0) := by
  unfold Wu
  rw [i0, i4, i5, n1, if_neg (by simp [c1]), if_neg (by simp), if_neg (by omega), if_neg (by omega), if_neg (by omega)]
 refine ⟨hh, ?_⟩
 unfold Zl
 have hlen : (x0 :: x1 :: x2 :: x3 :: a :: b :: d0 :: d1 :: (f.Ext ++ (U9 f.Values ++ t))).length = 8 + f.Ext.length + (U9 f.Values).length + t.length := by simp; omega
 rw [hh, if_neg (by simp), i0, n1, if_neg (by rw [hlen]; omega)]
 unfold Q66
 have hbody : Q67 (x0 :: x1 :: x2 :: x3 :: a :: b :: d0 :: d1 :: (f.Ext ++ (U9 f.Values ++ t))) (Q41 f) = U9 f.Values := by
  unfold Q67
  rw [i4, ha, List.drop_take, ← List.drop_drop, i8, List.drop_left, show Q41 f - (8 + f.Ext.length) = (U9 f.Values).length by omega, List.take_left]
 have hext : ((x0 :: x1 :: x2 :: x3 :: a :: b :: d0 :: d1 :: (f.Ext ++ (U9 f.Values ++ t))).take (4 * a.toNat)).drop 8 = f.Ext := by
  rw [ha, List.drop_take, i8, show 8 + f.Ext.length - 8 = f.Ext.length by omega, List.take_left]
 have hm : l.MaxDepth = ((l.MaxDepth.toNat : Nat) : Int) := by omega
 rw [hbody, i4, i5, i6, hext, n2, n4, Qbe f.Values _ [] (fun x hx => ⟨(hf.one x hx).1, by
  have := (Qnn (c5 x hx)).1
  rwa [hm] at this, (hf.one x hx).2.2⟩) (by simp; omega) (Nat.lt_succ_self _), Qle]
 simp only [List.nil_append]
 rfl
end
end Go.Av
namespace Go.Av
noncomputable section
open Go.Proofs
set_option maxRecDepth 100000
end
end Go.Av
namespace Go.Av
noncomputable section
open Go.Proofs
set_option maxRecDepth 100000
theorem Qfz {s : List UInt8} {l : Qd} (h8 : 8 ≤ s.length) (t : List UInt8) : Wu (s ++ t) l = Wu s l :=
 Qmn l (by rw [List.length_append]; omega) h8 (by rw [List.take_append_of_le_length h8])
theorem Qby {s : List UInt8} {l : Qd} (h : Vw l = false) : Wu s l = (0, 2) := by unfold Wu; rw [if_pos h]
theorem Qhz {s : List UInt8} {l : Qd} (h : Vw l = true) (h8 : s.length < 8) : Wu s l = (0, 3) := by unfold Wu; rw [if_neg (by simp [h]), if_pos h8]
theorem Qf2 {s : List UInt8} {l : Qd} (h8 : 8 ≤ s.length) : (Wu s l).2 ≠ 3 := by
 unfold Wu
 split
 ·decide
 ·split
  ·omega
  ·split
   ·decide
   ·split
    ·decide
    ·split <;> simp
theorem Qa5 {rd : List UInt8 → Rd} : ∀ (k : Nat) (s : List UInt8) (acc : List Q0), (Gx rd k s acc).2 ≠ 3
 | 0, _, _ => by unfold Gx; decide
 | k + 1, s, acc => by
  unfold Gx
  split
  ·simp
  ·split
   ·simp
   ·split
    ·simp
    ·split
     ·assumption
     ·exact Qa5 k _ _
theorem Qjd (s : List UInt8) (n m : Nat) : (Q66 s n m).2.2 ≠ 3 := by
 unfold Q66 Qrd
 split
 ·exact Qa5 _ _ _
 ·simp
theorem Gp {s : List UInt8} {l : Qd} (hr : Vw l = true) : (Zl s l).2.2 = 3 ↔ s.length < 8 ∨ (Wu s l).2 = 0 ∧ s.length < J6 (s.take 4) := by
 unfold Zl
 by_cases h8 : s.length < 8
 ·rw [Qhz hr h8]; simp [h8]
 ·have h3 := Qf2 (s := s) (l := l) (by omega)
  by_cases h0 : (Wu s l).2 = 0
  ·rw [if_neg (by simp [h0])]
   by_cases hn : s.length < J6 (s.take 4)
   ·rw [if_pos hn]; simp [h0, hn]
   ·rw [if_neg hn]; simp [h0, hn, h8, Qjd]
  ·rw [if_pos h0]; simp [h0, h8, h3]
theorem Qc4 {s : List UInt8} {l : Qd} (hr : Vw l = false) : Zl s l = (Qdd, 0, 2) := by
 unfold Zl; rw [Qby hr]; simp
theorem Qg1 {s : List UInt8} {l : Qd} (h : (Zl s l).2.2 ≠ 3) (t : List UInt8) : Zl (s ++ t) l = Zl s l := by
 by_cases hr : Vw l = false
 ·rw [Qc4 hr, Qc4 hr]
 ·have hr' : Vw l = true := by simpa using hr
  have hs := (not_congr (Gp (s := s) hr')).1 h
  have h8 : 8 ≤ s.length := by omega
  have hh := Qfz (l := l) h8 t
  unfold Zl
  rw [hh]
  by_cases h0 : (Wu s l).2 = 0
  ·have hn : ¬ s.length < J6 (s.take 4) := fun hn => hs (.inr ⟨h0, hn⟩)
   have ht : (s ++ t).take 4 = s.take 4 := List.take_append_of_le_length (by omega)
   have hn' : J6 (s.take 4) ≤ s.length := by omega
   rw [ht, if_neg (show ¬ ((Wu s l).2 ≠ 0) from fun q => q h0), if_neg (show ¬ ((Wu s l).2 ≠ 0) from fun q => q h0), if_neg (by rw [List.length_append]; omega), if_neg hn]
   obtain ⟨_, _, _, _, _, q6, _, _⟩ := Q6w h0
   have e4 := (show (s ++ t).getD 4 0 = s.getD 4 0 by simp [List.getD, List.getElem?_append_left (show 4 < s.length by omega)])
   have e5 := (show (s ++ t).getD 5 0 = s.getD 5 0 by simp [List.getD, List.getElem?_append_left (show 5 < s.length by omega)])
   have eb : Q67 (s ++ t) (J6 (s.take 4)) = Q67 s (J6 (s.take 4)) := by
    unfold Q67; rw [e4, List.take_append_of_le_length hn']
   unfold Q66
   rw [eb, e4, e5, List.take_append_of_le_length h8, List.take_append_of_le_length (show 4 * (s.getD 4 0).toNat ≤ s.length by omega)]
  ·rw [if_pos h0, if_pos h0]
noncomputable def Q3r (l : Qd) : Nat → List UInt8 → List Q3 → Int → List Q3 × List UInt8 × Int × Int
 | 0, s, acc, p => (acc, s, p, 0)
 | k + 1, s, acc, p => if (Zl s l).2.2 = 3 then (acc, s, p, 0) else if (Zl s l).2.2 ≠ 0 then (acc, [], p, (Zl s l).2.2)
  else Q3r l k (s.drop (Zl s l).2.1.toNat) (acc ++ [(Zl s l).1]) (p + (Zl s l).2.1)
theorem Q1s {l : Qd} {s : List UInt8} (h : (Zl s l).2.2 = 3) (k : Nat) (acc : List Q3) (p : Int) : Q3r l k s acc p = (acc, s, p, 0) := by
 cases k with
 | zero => rfl
 | succ k => unfold Q3r; rw [if_pos h]
theorem Q42 {l : Qd} {s : List UInt8} (h3 : (Zl s l).2.2 ≠ 3) (h0 : (Zl s l).2.2 ≠ 0) (k : Nat) (acc : List Q3) (p : Int) : Q3r l (k + 1) s acc p = (acc, [], p, (Zl s l).2.2) := by
 conv => lhs; unfold Q3r
 rw [if_neg h3, if_pos h0]
theorem Q69 {l : Qd} {s : List UInt8} (h0 : (Zl s l).2.2 = 0) (k : Nat) (acc : List Q3) (p : Int) : Q3r l (k + 1) s acc p = Q3r l k (s.drop (Zl s l).2.1.toNat) (acc ++ [(Zl s l).1]) (p + (Zl s l).2.1) := by
 conv => lhs; unfold Q3r
 rw [if_neg (by omega), if_neg (by simp [h0])]
theorem Q0q {s : List UInt8} {l : Qd} (h : (Zl s l).2.2 = 0) : 8 ≤ (Zl s l).2.1 ∧ (Zl s l).2.1 ≤ s.length ∧ (Zl s l).2.1 ≤ l.MaxPacket ∧ Vw l = true := by
 have hh : (Wu s l).2 = 0 := by
  unfold Zl at h
  split at h
  ·exact h
  ·rename_i hq; exact Classical.byContradiction hq
 obtain ⟨q1, q2, q3, q4, q5, q6, q7, q8⟩ := Q6w hh
 unfold Zl at h ⊢
 rw [if_neg (show ¬ ((Wu s l).2 ≠ 0) from fun h => h hh)] at h ⊢
 split at h
 ·cases h
 ·rename_i hn
  rw [if_neg hn]
  unfold Q66 Qrd at h ⊢
  split at h
  ·rename_i hx; exact absurd h hx
  ·rename_i hx
   rw [if_neg hx]
   exact ⟨by simp only []; omega, by simp only []; omega, by simp only []; omega, q1⟩
theorem Qcd {l : Qd} : ∀ (k k' : Nat) (s : List UInt8) (acc : List Q3) (p : Int), s.length < k → s.length < k' → Q3r l k s acc p = Q3r l k' s acc p
 | 0, _, _, _, _, h, _ => by omega
 | _, 0, _, _, _, _, h => by omega
 | k + 1, k' + 1, s, acc, p, h, h' => by
  by_cases h3 : (Zl s l).2.2 = 3
  ·rw [Q1s h3, Q1s h3]
  ·by_cases h0 : (Zl s l).2.2 = 0
   ·obtain ⟨q1, q2, _⟩ := Q0q h0
    rw [Q69 h0, Q69 h0]
    exact Qcd k k' _ _ _ (by rw [List.length_drop]; omega) (by rw [List.length_drop]; omega)
   ·rw [Q42 h3 h0, Q42 h3 h0]
theorem Q9y {l : Qd} : ∀ (k : Nat) (s : List UInt8) (acc : List Q3) (p : Int), Q3r l k s acc p = (acc ++ (Q3r l k s [] 0).1, (Q3r l k s [] 0).2.1, p + (Q3r l k s [] 0).2.2.1, (Q3r l k s [] 0).2.2.2)
 | 0, s, acc, p => by simp [Q3r]
 | k + 1, s, acc, p => by
  by_cases h3 : (Zl s l).2.2 = 3
  ·rw [Q1s h3, Q1s h3]; simp
  ·by_cases h0 : (Zl s l).2.2 = 0
   ·rw [Q69 h0, Q69 h0, Q9y k _ (acc ++ [(Zl s l).1]), Q9y k _ ([] ++ [(Zl s l).1])]
    simp only [List.append_assoc, List.nil_append, Int.add_assoc, Int.zero_add]
   ·rw [Q42 h3 h0, Q42 h3 h0]; simp
noncomputable def Qt (l : Qd) (s : List UInt8) : List Q3 × List UInt8 × Int × Int := Q3r l (s.length + 1) s [] 0
theorem Qkz {l : Qd} {s : List UInt8} (k : Nat) (h : s.length < k) (acc : List Q3) (p : Int) : Q3r l k s acc p = (acc ++ (Qt l s).1, (Qt l s).2.1, p + (Qt l s).2.2.1, (Qt l s).2.2.2) := by
 rw [Qcd k (s.length + 1) s acc p h (by omega), Q9y]; rfl
theorem J3 {l : Qd} {s : List UInt8} (h : (Zl s l).2.2 = 3) : Qt l s = ([], s, 0, 0) := Q1s h _ _ _
theorem Q0k {l : Qd} {s : List UInt8} (h3 : (Zl s l).2.2 ≠ 3) (h0 : (Zl s l).2.2 ≠ 0) : Qt l s = ([], [], 0, (Zl s l).2.2) := Q42 h3 h0 _ _ _
theorem Q1x {l : Qd} {s : List UInt8} (h0 : (Zl s l).2.2 = 0) : Qt l s = ((Zl s l).1 :: (Qt l (s.drop (Zl s l).2.1.toNat)).1, (Qt l (s.drop (Zl s l).2.1.toNat)).2.1, (Zl s l).2.1 + (Qt l (s.drop (Zl s l).2.1.toNat)).2.2.1, (Qt l (s.drop (Zl s l).2.1.toNat)).2.2.2) := by
 obtain ⟨q1, q2, _⟩ := Q0q h0
 unfold Qt
 rw [Q69 h0, Qkz _ (by rw [List.length_drop]; omega)]
 simp [Qt]
theorem Q2m {l : Qd} (hr : Vw l = true) : ∀ (n : Nat) (s : List UInt8), s.length ≤ n →
  ((Qt l s).2.2.2 ≠ 0 ∧ (Qt l s).2.1 = [] ∨ (Qt l s).2.2.2 = 0 ∧ (Zl (Qt l s).2.1 l).2.2 = 3 ∧ (Qt l s).2.2.1 + (Qt l s).2.1.length = s.length) ∧ 0 ≤ (Qt l s).2.2.1 ∧ (Qt l s).2.2.1 ≤ s.length ∧ (Qt l s).2.2.2 ≠ 3
 | 0, s, hn => by
  have h3 : (Zl s l).2.2 = 3 := (Gp hr).2 (.inl (by omega))
  rw [J3 h3]; simp [h3]
 | n + 1, s, hn => by
  by_cases h3 : (Zl s l).2.2 = 3
  ·rw [J3 h3]; simp [h3]
  ·by_cases h0 : (Zl s l).2.2 = 0
   ·obtain ⟨q1, q2, _⟩ := Q0q h0
    rw [Q1x h0]
    obtain ⟨a, b, c, d⟩ := Q2m hr n (s.drop (Zl s l).2.1.toNat) (by rw [List.length_drop]; omega)
    rw [List.length_drop] at a c
    refine ⟨?_, by simp only []; omega, by simp only []; omega, d⟩
    rcases a with a | ⟨a1, a2, a3⟩
    ·exact .inl a
    ·exact .inr ⟨a1, a2, by simp only []; omega⟩
   ·rw [Q0k h3 h0]; simp [h0, h3]
theorem Q7t {l : Qd} (t : List UInt8) : ∀ (n : Nat) (s : List UInt8), s.length ≤ n → Qt l (s ++ t) = if (Qt l s).2.2.2 ≠ 0 then Qt l s else
  ((Qt l s).1 ++ (Qt l ((Qt l s).2.1 ++ t)).1, (Qt l ((Qt l s).2.1 ++ t)).2.1, (Qt l s).2.2.1 + (Qt l ((Qt l s).2.1 ++ t)).2.2.1, (Qt l ((Qt l s).2.1 ++ t)).2.2.2)
 | n, s, hn => by
  by_cases h3 : (Zl s l).2.2 = 3
  ·rw [J3 h3]; simp
  ·have hm := Qg1 h3 t
   by_cases h0 : (Zl s l).2.2 = 0
   ·obtain ⟨q1, q2, _⟩ := Q0q h0
    match n, hn with
    | 0, hn => omega
    | n + 1, hn =>
     have ih := Q7t (l := l) t n (s.drop (Zl s l).2.1.toNat) (by rw [List.length_drop]; omega)
     have h0' : (Zl (s ++ t) l).2.2 = 0 := by rw [hm]; exact h0
     rw [Q1x h0', hm, List.drop_append_of_le_length (by omega), ih, Q1x h0]
     simp only []
     by_cases he : (Qt l (s.drop (Zl s l).2.1.toNat)).2.2.2 = 0
     ·rw [if_neg (by simp [he]), if_neg (by simp [he])]
      simp [Int.add_assoc]
     ·rw [if_pos he, if_pos he]
   ·have h0' : (Zl (s ++ t) l).2.2 ≠ 0 := by rw [hm]; exact h0
    rw [Q0k (by rw [hm]; exact h3) h0', hm, Q0k h3 h0]
    simp [h0]
end
end Go.Av
namespace Go.Av
noncomputable section
open Go.Proofs
set_option maxRecDepth 100000
abbrev Qq1 := Q9
theorem Qj6 (s : List UInt8) (a b : Nat) : (((Q5p s : List Int).drop a).take b).map (fun n => UInt8.ofNat n.toNat) = (s.drop a).take b := by
 simp only [Q5p, ← List.map_drop, ← List.map_take]
 exact Qmm _
theorem Qll {N : Nat} (hN : N = 800000000) (l : Qd) (s : List UInt8) (i : Nat) (hi : i ≤ s.length) (p need e : Int) (q : Nat) (out : List Q3) :
  Y9 N ⟨l, Q5p s, (i : Int), p, need, e, q, out⟩ = some (if (s.drop i).length < 8 then (false, ⟨l, Q5p s, (i : Int), p, need, e, q, out⟩)
   else if (Wu (s.drop i) l).2 ≠ 0 then (false, ⟨l, [], 0, p, 0, (Wu (s.drop i) l).2, q, out⟩) else (true, ⟨l, Q5p s, (i : Int), p, (Wu (s.drop i) l).1, e, Zo, out⟩)) := by
 simp only [Y9, Qb, W2, Vb, Q19, Int.toNat_natCast]
 rw [if_pos (by simp), if_pos (by simp [Nat.ble_eq]; exact hi), List.length_drop]
 by_cases h : s.length - i < 8
 ·rw [if_pos (by omega), if_pos h]
 ·rw [if_neg (by omega), if_neg h, if_pos (by simp [Nat.ble_eq]; omega), Qj6, Qhk hN]
  simp only [Option.bind_some, Nat.zero_add, Nat.mul_one]
  have e8 : Wu ((s.drop i).take 8) l = Wu (s.drop i) l := Qmn l (by rw [List.length_take, List.length_drop]; omega) (by rw [List.length_drop]; omega) (by rw [List.take_take]; rfl)
  rw [e8]
  by_cases he : (Wu (s.drop i) l).2 = 0
  ·rw [if_neg (show ¬ ((Wu (s.drop i) l).2 ≠ 0) from fun k => k he), if_neg (show ¬ ((Wu (s.drop i) l).2 ≠ 0) from fun k => k he)]
  ·rw [if_pos (show (Wu (s.drop i) l).2 ≠ 0 from he), if_pos (show (Wu (s.drop i) l).2 ≠ 0 from he)]
   simp only [Xa, Option.bind_some]
theorem Qt1 {α : Type} (l : List α) (a b : α) : (l ++ [a]).set l.length b = l ++ [b] := by simp
theorem Qsk {α : Type} (l : List α) (a : α) : idx (l ++ [a]) (l.length : Int) = some a := by simp [idx]
theorem Qks {N : Nat} (hN : N = 800000000) {l : Qd} {s : List UInt8} {i : Nat} (hi : i ≤ s.length) (hs : s.length ≤ 300000) {p need : Int} (e : Int) (q : Nat) {out : List Q3} (hp : 0 ≤ p ∧ p ≤ 1000000000000) (ho : out.length ≤ 300000)
  (hd : Wu (s.drop i) l = (need, 0)) : Yc N ⟨l, Q5p s, (i : Int), p, need, e, q, out⟩ = some (if (Zl (s.drop i) l).2.2 = 3 then (false, ⟨l, Q5p s, (i : Int), p, need, e, q, out⟩)
   else if (Zl (s.drop i) l).2.2 ≠ 0 then (false, ⟨l, [], 0, p, 0, (Zl (s.drop i) l).2.2, q, out⟩)
   else (true, ⟨l, Q5p s, ((i + (Zl (s.drop i) l).2.1.toNat : Nat) : Int), p + (Zl (s.drop i) l).2.1, need, e, Qu, out ++ [(Zl (s.drop i) l).1]⟩)) := by
 obtain ⟨q1, q2, q3, q4, q5, q6, q7, q8⟩ := Q6w (show (Wu (s.drop i) l).2 = 0 by rw [hd])
 rw [hd] at q8
 have hnd : need = (J6 ((s.drop i).take 4) : Int) := by
  have := congrArg Prod.fst q8
  simpa using this
 have hsh := Gp (s := s.drop i) q1
 rw [hd] at hsh
 have hL : (s.drop i).length = s.length - i := List.length_drop
 rw [hL] at q2
 simp only [Yc, Qb, W2, Vb, Q19, Int.toNat_natCast]
 rw [if_pos (by simp), if_pos (by simp [Nat.ble_eq]; exact hi)]
 by_cases h : s.length - i < J6 ((s.drop i).take 4)
 ·rw [if_pos (by omega), if_pos (hsh.2 (.inr ⟨rfl, by rw [hL]; exact h⟩))]
 ·have h3 : (Zl (s.drop i) l).2.2 ≠ 3 := fun k => by
   rcases hsh.1 k with k | ⟨_, k⟩ <;> rw [hL] at k <;> omega
  have ht : need.toNat = J6 ((s.drop i).take 4) := by rw [hnd]; simp
  have hrd : Zl ((s.drop i).take need.toNat) l = Zl (s.drop i) l := by
   have hh : Wu ((s.drop i).take need.toNat) l = Wu (s.drop i) l := Qmn l (by rw [List.length_take, hL]; omega) (by rw [hL]; omega) (by rw [List.take_take]; congr 1; omega)
   have h4 : ((s.drop i).take need.toNat).take 4 = (s.drop i).take 4 := by rw [List.take_take]; congr 1; omega
   have hk : (Zl ((s.drop i).take need.toNat) l).2.2 ≠ 3 := fun k => by
    rcases (Gp q1).1 k with k | ⟨_, k⟩
    ·rw [List.length_take, hL] at k; omega
    ·rw [h4, List.length_take, hL] at k; omega
   have := Qg1 hk ((s.drop i).drop need.toNat)
   rw [List.take_append_drop] at this
   exact this.symm
  rw [if_neg (by omega), if_neg h3, if_pos (by rw [decide_eq_true_eq]; omega), if_pos (by simp [Nat.ble_eq]; omega), Qj6]
  simp only [Nat.zero_add, Nat.mul_one]
  rw [Qmx hN _ _ (by rw [List.length_take, hL]; omega), hrd]
  simp only [Option.bind_some]
  by_cases he : (Zl (s.drop i) l).2.2 = 0
  ·obtain ⟨m1, m2, m3, m4⟩ := Q0q he
   rw [hL] at m2
   rw [if_neg (show ¬ ((Zl (s.drop i) l).2.2 ≠ 0) from fun k => k he), if_neg (show ¬ ((Zl (s.drop i) l).2.2 ≠ 0) from fun k => k he), if_pos (by rw [Nat.ble_eq]; omega), Qsk]
   simp only [Option.bind_some, Qt1]
   rw [Z1 _ (by omega), Z1 _ (by omega)]
   congr 4
   omega
  ·rw [if_pos (show (Zl (s.drop i) l).2.2 ≠ 0 from he), if_pos (show (Zl (s.drop i) l).2.2 ≠ 0 from he)]
   simp only [Xa, Option.bind_some]
def Quw (x : Qq1) : Option ((List Q3 × Int) × Qq1) :=
  cond (Q5 .gtr x.from' 0)
  (cond (decide (0 ≤ x.from')) (cond (Nat.ble x.from'.toNat x.kept.length && Nat.ble x.kept.length x.kept.length) (cond (Nat.ble 1 x.kept.length) (cond (Nat.ble 0 (((((x.kept : List Int).drop (0 + x.from'.toNat * 1)).take (x.kept.length - x.from'.toNat)).take x.kept.length).length) && Nat.ble (((((x.kept : List Int).drop (0 + x.from'.toNat * 1)).take (x.kept.length - x.from'.toNat)).take x.kept.length).length) x.kept.length) (some ((x.out, x.e), (⟨x.l, (((((((x.kept : List Int).drop (0 + x.from'.toNat * 1)).take (x.kept.length - x.from'.toNat)).take x.kept.length) ++ (x.kept : List Int).drop ((((x.kept : List Int).drop (0 + x.from'.toNat * 1)).take (x.kept.length - x.from'.toNat)).take x.kept.length).length) : List Int).take (((((x.kept : List Int).drop (0 + x.from'.toNat * 1)).take (x.kept.length - x.from'.toNat)).take x.kept.length).length)), 0, x.at', x.need, x.e, x.next, []⟩ : Q9))) none) none) none) none)
  (some ((x.out, x.e), (⟨x.l, x.kept, x.from', x.at', x.need, x.e, x.next, []⟩ : Q9)))
theorem Qdu (l : Qd) (s : List UInt8) (i : Nat) (hi : i ≤ s.length) (p need e : Int) (q : Nat) (out : List Q3) : Quw ⟨l, Q5p s, (i : Int), p, need, e, q, out⟩ = some ((out, e), ⟨l, Q5p (s.drop i), 0, p, need, e, q, []⟩) := by
 simp only [Quw, Qb, Q2e, Q19, Int.toNat_natCast, Nat.zero_add, Nat.mul_one]
 by_cases h0 : i = 0
 ·subst h0
  rw [if_neg (by simp)]; rfl
 ·have e1 : ((Q5p s).drop i).take (s.length - i) = Q5p (s.drop i) := by
   rw [List.take_of_length_le (by rw [List.length_drop, Q19]; omega)]
   simp [Q5p]
  have e2 : (Q5p (s.drop i)).take s.length = Q5p (s.drop i) := List.take_of_length_le (by rw [Q19, List.length_drop]; omega)
  rw [if_pos (by omega), if_pos (by simp), if_pos (by simp [Nat.ble_eq]; exact hi), if_pos (by rw [Nat.ble_eq]; omega), e1, e2, if_pos (by simp [Nat.ble_eq, Q19]), List.take_left]
theorem Qsb (N n : Nat) (l : Qd) (i p need e : Int) (q : Nat) (k : List Int) (out : List Q3) : Qo N (n + 1) l.MaxPacket l.MaxDepth i p need e q k out =
  cond (Nat.beq q Qu) ((Y9 N ⟨l, k, i, p, need, e, Qu, out⟩).bind fun v => cond v.1 (Qo N n v.2.l.MaxPacket v.2.l.MaxDepth v.2.from' v.2.at' v.2.need v.2.e v.2.next v.2.kept v.2.out) (Quw v.2))
  (cond (Nat.beq q Zo) ((Yc N ⟨l, k, i, p, need, e, Zo, out⟩).bind fun v => cond v.1 (Qo N n v.2.l.MaxPacket v.2.l.MaxDepth v.2.from' v.2.at' v.2.need v.2.e v.2.next v.2.kept v.2.out) (Quw v.2)) none) := rfl
theorem Qv9 (N : Nat) : Zm N = Qo N := by
 funext n
 induction n with
 | zero => rfl
 | succ n ih =>
  funext a b c d e f q k o
  simp only [Qo, Zm, ih]
def Qoi (l : Qd) (s : List UInt8) (need : Int) (q : Nat) : Prop := q = Qu ∨ q = Zo ∧ Wu s l = (need, 0)
theorem Q7d {N : Nat} (hN : N = 800000000) {l : Qd} (hr : Vw l = true) {s : List UInt8} (hs : s.length ≤ 300000) : ∀ (n i : Nat) (p need : Int) (q : Nat) (out : List Q3), i ≤ s.length → Qoi l (s.drop i) need q →
  2 * (s.length - i) + (if q = Qu then 2 else 1) ≤ n → 0 ≤ p → p + (s.length - i : Nat) ≤ 1000000000000 → out.length + (s.length - i) ≤ 300000 →
  ∃ need' q', ((Qt l (s.drop i)).2.2.2 = 0 → Qoi l (Qt l (s.drop i)).2.1 need' q') ∧ Qo N n l.MaxPacket l.MaxDepth (i : Int) p need 0 q (Q5p s) out =
   some ((out ++ (Qt l (s.drop i)).1, (Qt l (s.drop i)).2.2.2), ⟨l, Q5p (Qt l (s.drop i)).2.1, 0, p + (Qt l (s.drop i)).2.2.1, need', (Qt l (s.drop i)).2.2.2, q', []⟩)
 | 0, i, p, need, q, out, _, _, h, _, _, _ => by split at h <;> omega
 | n + 1, i, p, need, q, out, hi, hw, hn, hp, hp2, ho => by
  have hL : (s.drop i).length = s.length - i := List.length_drop
  rw [Qsb]
  rcases hw with rfl | ⟨rfl, hd⟩
  ·rw [Qll hN l s i hi]
   simp only [Qb, Option.bind_some]
   rw [if_pos (show Nat.beq Qu Qu = true from rfl)]
   rw [if_pos rfl] at hn
   by_cases h8 : (s.drop i).length < 8
   ·have h3 : (Zl (s.drop i) l).2.2 = 3 := (Gp hr).2 (.inl h8)
    rw [if_pos h8, if_neg (by simp), J3 h3, Qdu l s i hi]
    exact ⟨need, _, fun _ => .inl rfl, by simp⟩
   ·rw [if_neg h8]
    by_cases h0 : (Wu (s.drop i) l).2 = 0
    ·rw [if_neg (show ¬ ((Wu (s.drop i) l).2 ≠ 0) from fun k => k h0)]
     simp only [if_true]
     exact Q7d hN hr hs n i p _ _ out hi (.inr ⟨rfl, Prod.ext rfl h0⟩) (by rw [if_neg (by decide)]; omega) hp hp2 ho
    ·have hre : Zl (s.drop i) l = (Qdd, 0, (Wu (s.drop i) l).2) := by unfold Zl; rw [if_pos h0]
     have h3 : (Wu (s.drop i) l).2 ≠ 3 := Qf2 (by omega)
     rw [if_pos (show (Wu (s.drop i) l).2 ≠ 0 from h0), if_neg (by simp), Q0k (by rw [hre]; exact h3) (by rw [hre]; exact h0), hre]
     refine ⟨0, Qu, fun k => absurd k h0, ?_⟩
     simp only []
     rw [show ([] : List Int) = Q5p [] from rfl, show (0 : Int) = ((0 : Nat) : Int) from rfl, Qdu l [] 0 (Nat.le_refl _)]
     simp
  ·rw [Qks hN hi hs 0 _ (by omega) (by omega) hd]
   simp only [Qb, Option.bind_some]
   rw [if_neg (show ¬ Nat.beq Zo Qu = true by decide), if_pos (show Nat.beq Zo Zo = true from rfl)]
   rw [if_neg (by decide)] at hn
   by_cases h3 : (Zl (s.drop i) l).2.2 = 3
   ·rw [if_pos h3, if_neg (by simp), J3 h3, Qdu l s i hi]
    exact ⟨need, _, fun _ => .inr ⟨rfl, hd⟩, by simp⟩
   ·rw [if_neg h3]
    by_cases h0 : (Zl (s.drop i) l).2.2 = 0
    ·obtain ⟨m1, m2, m3, m4⟩ := Q0q h0
     rw [hL] at m2
     rw [if_neg (show ¬ ((Zl (s.drop i) l).2.2 ≠ 0) from fun k => k h0)]
     simp only [if_true]
     obtain ⟨need', q', w, ih⟩ := Q7d hN hr hs n (i + (Zl (s.drop i) l).2.1.toNat) (p + (Zl (s.drop i) l).2.1) need Qu (out ++ [(Zl (s.drop i) l).1]) (by omega) (.inl rfl) (by rw [if_pos rfl]; omega) (by omega) (by omega) (by rw [List.length_append]; simp only [List.length_cons, List.length_nil]; omega)
     rw [ih, Q1x h0, List.drop_drop]
     exact ⟨need', q', w, by simp [Int.add_assoc]⟩
    ·rw [if_pos (show (Zl (s.drop i) l).2.2 ≠ 0 from h0), if_neg (by simp), Q0k h3 h0]
     refine ⟨0, Zo, fun k => absurd k h0, ?_⟩
     simp only []
     rw [show ([] : List Int) = Q5p [] from rfl, show (0 : Int) = ((0 : Nat) : Int) from rfl, Qdu l [] 0 (Nat.le_refl _)]
     simp
structure Qob (x : Qq1) (l : Qd) (s : List UInt8) (p e : Int) : Prop where
 lim : x.l = l
 kept : x.kept = Q5p s
 frm : x.from' = 0
 plc : x.at' = p
 err : x.e = e
 none : x.out = []
 bad : e ≠ 0 → s = []
 Qvq : e = 0 → (Zl s l).2.2 = 3
 waits : e = 0 → Qoi l s x.need x.next
theorem Qph {N : Nat} {x : Qq1} {l : Qd} {s : List UInt8} {p e : Int} (h : Qob x l s p e) (he : e ≠ 0) (c : List UInt8) : Qy N x c = some (([], e), x) := by
 simp only [Qy, Qb, Vb, h.err]
 rw [if_pos he]
theorem Qt4 {N : Nat} (hN : N = 800000000) {x : Qq1} {l : Qd} (hr : Vw l = true) {s : List UInt8} {p : Int} (h : Qob x l s p 0) (c : List UInt8) (hs : s.length + c.length ≤ 100000) (hp : 0 ≤ p) (hp2 : p + s.length + c.length ≤ 1000000000000) :
  ∃ x', Qy N x c = some (((Qt l (s ++ c)).1, (Qt l (s ++ c)).2.2.2), x') ∧ Qob x' l (Qt l (s ++ c)).2.1 (p + (Qt l (s ++ c)).2.2.1) (Qt l (s ++ c)).2.2.2 := by
 obtain ⟨xl, xk, xf, xa, xn, xe, xq, xo⟩ := x
 obtain ⟨h1, h2, h3, h4, h5, h6, h7, h8, h9⟩ := h
 simp only [] at h1 h2 h3 h4 h5 h6 h9
 subst h1 h2 h3 h4 h5 h6
 have hw : Qoi xl (s ++ c) xn xq := by
  rcases h9 (by simp) with q | ⟨q, hd⟩
  ·exact .inl q
  ·refine .inr ⟨q, ?_⟩
   obtain ⟨_, q2, _⟩ := Q6w (show (Wu s xl).2 = 0 by rw [hd])
   rw [Qfz q2]; exact hd
 have key : ∀ k : List Int, k = Q5p (s ++ c) → ∃ x', Qo N N xl.MaxPacket xl.MaxDepth 0 xa xn 0 xq k [] = some (((Qt xl (s ++ c)).1, (Qt xl (s ++ c)).2.2.2), x') ∧ Qob x' xl (Qt xl (s ++ c)).2.1 (xa + (Qt xl (s ++ c)).2.2.1) (Qt xl (s ++ c)).2.2.2 := fun k hk => by
  subst hk
  have hlen : (s ++ c).length = s.length + c.length := List.length_append
  obtain ⟨need', q', w, ih⟩ := Q7d hN hr (s := s ++ c) (by omega) N 0 xa xn xq [] (Nat.zero_le _) hw (by subst hN; split <;> omega) hp (by simp only [Nat.sub_zero]; omega) (by simp only [List.length_nil, Nat.sub_zero]; omega)
  rw [List.drop_zero] at ih w
  refine ⟨_, ih, rfl, rfl, rfl, rfl, rfl, rfl, fun hb => ?_, fun h0 => ?_, fun h0 => w h0⟩
  ·rcases (Q2m hr _ (s ++ c) (Nat.le_refl _)).1 with ⟨_, b⟩ | ⟨b, _⟩
   ·exact b
   ·exact absurd b hb
  ·rcases (Q2m hr _ (s ++ c) (Nat.le_refl _)).1 with ⟨b, _⟩ | ⟨_, b, _⟩
   ·exact absurd h0 b
   ·exact b
 simp only [Qy, Qb, Vb]
 rw [if_neg (by simp)]
 by_cases hc : c = []
 ·subst hc
  rw [if_pos (show Nat.beq ([] : List UInt8).length 0 = true from rfl)]
  exact key _ (by simp)
 ·rw [if_neg (by cases c with
   | nil => exact absurd rfl hc
   | cons => simp [Nat.beq_eq]), if_pos (by rw [Nat.ble_eq, Q19]; omega), Qv9]
  exact key _ (by rw [Qtf, Qp1])
end
end Go.Av
namespace Go.Av
noncomputable section
open Go.Proofs
set_option maxRecDepth 100000
theorem Qrc : Wh 800000000 = some true := by decide +kernel
theorem Quh (l : Qd) (hr : Vw l = true) : Qob ⟨l, [], 0, 0, 0, 0, Qu, []⟩ l (Qt l []).2.1 (Qt l []).2.2.1 (Qt l []).2.2.2 := by
 have h3 : (Zl [] l).2.2 = 3 := (Gp hr).2 (.inl (by simp))
 rw [J3 h3]
 exact ⟨rfl, rfl, rfl, rfl, rfl, rfl, fun _ => rfl, fun _ => h3, fun _ => .inl rfl⟩
theorem Qes (l : Qd) (hr : Vw l = true) : Qt l [] = ([], [], 0, 0) := J3 ((Gp hr).2 (.inl (by simp)))
theorem Qmk {N : Nat} (hN : N = 800000000) {x : Qq1} {l : Qd} (hr : Vw l = true) {t : List UInt8} (h : Qob x l (Qt l t).2.1 (Qt l t).2.2.1 (Qt l t).2.2.2) (c : List UInt8) (hs : t.length + c.length ≤ 100000) :
  ∃ fs x', Qy N x c = some ((fs, (Qt l (t ++ c)).2.2.2), x') ∧ Qob x' l (Qt l (t ++ c)).2.1 (Qt l (t ++ c)).2.2.1 (Qt l (t ++ c)).2.2.2 ∧ (Qt l t).1 ++ fs = (Qt l (t ++ c)).1 ∧ ((Qt l t).2.2.2 = 0 → fs = (Qt l ((Qt l t).2.1 ++ c)).1) := by
 have ha := Q7t (l := l) c _ t (Nat.le_refl _)
 by_cases he : (Qt l t).2.2.2 = 0
 ·rw [if_neg (show ¬ ((Qt l t).2.2.2 ≠ 0) from fun k => k he)] at ha
  rw [he] at h
  have hd := Q2m hr _ t (Nat.le_refl _)
  have hl : (Qt l t).2.2.1 + (Qt l t).2.1.length = t.length := by
   rcases hd.1 with ⟨b, _⟩ | ⟨_, _, b⟩
   ·exact absurd he b
   ·exact b
  obtain ⟨x', h1, h2⟩ := Qt4 hN hr h c (by omega) hd.2.1 (by omega)
  rw [ha]
  exact ⟨_, x', h1, h2, rfl, fun _ => rfl⟩
 ·rw [if_pos he] at ha
  rw [ha]
  exact ⟨[], x, Qph h he c, h, by simp, fun k => absurd k he⟩
theorem Qpn {N : Nat} (hN : N = 800000000) (l : Qd) : W4 N [] l = some (if Vw l = true then (0, 3) else (0, 2)) := by
 rw [Qhk hN]
 by_cases hr : Vw l = true
 ·rw [if_pos hr, Qhz hr (by simp)]
 ·rw [if_neg hr, Qby (by simpa using hr)]
theorem Qsi {N : Nat} {x : Qq1} {l : Qd} {s : List UInt8} {p e : Int} (h : Qob x l s p e) : Ye N x = some ((s.length : Int), x) := by
 obtain ⟨xl, xk, xf, xa, xn, xe, xq, xo⟩ := x
 obtain ⟨h1, h2, h3, h4, h5, h6, _, _, _⟩ := h
 simp only [] at h1 h2 h3 h4 h5 h6
 subst h1 h2 h3 h4 h5 h6
 simp only [Ye, Qb, Q19]
 rw [if_pos (by simp), if_pos (by simp)]
 simp
theorem Qvi {N : Nat} {x : Qq1} {l : Qd} {s : List UInt8} {p e : Int} (h : Qob x l s p e) : Wt N x = some (p, x) := by
 simp only [Wt, h.plc]
theorem Q33 {l : Qd} : ∀ (n : Nat) (s : List UInt8), s.length ≤ n → s.length ≤ 100000 → 8 * (Qt l s).1.length ≤ s.length ∧ ∀ f ∈ (Qt l s).1, Q0.szs f.Values ≤ 1001 * 100000
 | n, s, hn, hs => by
  by_cases h3 : (Zl s l).2.2 = 3
  ·rw [J3 h3]; simp
  ·by_cases h0 : (Zl s l).2.2 = 0
   ·obtain ⟨q1, q2, _⟩ := Q0q h0
    match n, hn with
    | 0, hn => omega
    | n + 1, hn =>
     have ih := Q33 (l := l) n (s.drop (Zl s l).2.1.toNat) (by rw [List.length_drop]; omega) (by rw [List.length_drop]; omega)
     rw [Q1x h0]
     refine ⟨by have := ih.1; rw [List.length_drop] at this; simp only [List.length_cons]; omega, fun f hf => ?_⟩
     rcases List.mem_cons.1 hf with rfl | hf
     ·have := Ql6 s l (by omega)
      omega
     ·exact ih.2 f hf
   ·rw [Q0k h3 h0]; simp
theorem Qo3 {α : Type} [DecidableEq α] (l m : List α) (i : Nat) (h : i < l.length) (h' : i < m.length) : decide (l.drop i = m.drop i) = (decide (l[i] = m[i]) && decide (l.drop (i + 1) = m.drop (i + 1))) := by
 rw [Bool.eq_iff_iff]
 simp only [decide_eq_true_eq, Bool.and_eq_true]
 rw [List.drop_eq_getElem_cons h, List.drop_eq_getElem_cons h', List.cons.injEq]
theorem Qfs {N : Nat} (hN : N = 800000000) {a b : List Q3} (ha : ∀ f ∈ a, Q0.szs f.Values < 700000000) (hl : a.length = b.length) (hs : a.length < 100000000) : ∀ (n i : Nat), i ≤ a.length → a.length - i < n → Y7 N a b n (i : Int) = some (decide (a.drop i = b.drop i))
 | 0, i, _, h => by omega
 | n + 1, i, hi, hn => by
  simp only [Y7, Qb, W2, Xr]
  by_cases h : i < a.length
  ·have ih := Qfs hN ha hl hs n (i + 1) (by omega) (by omega)
   rw [if_pos (by omega)]
   simp only [idx, List.getElem?_eq_getElem h, List.getElem?_eq_getElem (hl ▸ h), Option.bind_some]
   rw [Qpj hN _ _ (ha _ (List.getElem_mem h))]
   simp only [Option.bind_some]
   rw [Z1 _ (by omega), show ((i : Int) + 1) = ((i + 1 : Nat) : Int) by push_cast; rfl, ih]
   have e := Qo3 a b i h (hl ▸ h)
   rw [e]
   by_cases hf : a[i] = b[i] <;> simp [hf]
  ·rw [if_neg (by omega), List.drop_of_length_le (by omega), List.drop_of_length_le (by omega)]; simp
theorem Qnt {N : Nat} (hN : N = 800000000) {a b : List Q3} (ha : ∀ f ∈ a, Q0.szs f.Values < 700000000) (hs : a.length < 100000000) : Yq N a b = some (decide (a = b)) := by
 simp only [Yq, Qb, Vb, Xr]
 by_cases hl : a.length = b.length
 ·rw [if_neg (by omega)]
  exact Qfs hN ha hl hs N 0 (by omega) (by omega)
 ·rw [if_pos (by omega)]
  have : a ≠ b := fun h => hl (by rw [h])
  simp [this]
theorem Qnz {α : Type} (cs : List (List α)) (i : Nat) (h : i < cs.length) : (cs.take (i + 1)).flatten = (cs.take i).flatten ++ cs[i] := by
 rw [List.take_succ_eq_append_getElem h, List.flatten_append]; simp
theorem Qlc {α : Type} (cs : List (List α)) (i : Nat) : (cs.take i).flatten.length ≤ cs.flatten.length := by
 conv => rhs; rw [← List.take_append_drop i cs]
 rw [List.flatten_append, List.length_append]; omega
theorem Qqc {N : Nat} {by_1 : List Int} (hb : by_1.length < 1000000) : ∀ (n i : Nat) (s : List UInt8) (acc : List (List UInt8)), s.length < 1000000 → acc.length = i → i ≤ by_1.length → by_1.length - i < n →
  ∃ cs, W8 N by_1 n s (i : Int) acc = some (acc ++ cs) ∧ cs.flatten = s ∧ cs.length = by_1.length - i + 1
 | 0, _, _, _, _, _, _, h => by omega
 | n + 1, i, s, acc, hs, ha, hi, hn => by
  simp only [W8, Qb, W2, Xr]
  by_cases h : i < by_1.length
  ·rw [if_pos (by omega)]
   simp only [idx, List.getElem?_eq_getElem h, Option.bind_some]
   rw [Z1 _ (by omega), show ((s.length : Int) + 1) = ((s.length + 1 : Nat) : Int) by push_cast; rfl]
   obtain ⟨k, hk, hk2⟩ : ∃ k : Nat, by_1[i] % ((s.length + 1 : Nat) : Int) = (k : Int) ∧ k ≤ s.length := by
    have m1 := Int.emod_nonneg by_1[i] (show ((s.length + 1 : Nat) : Int) ≠ 0 by omega)
    have m2 := Int.emod_lt_of_pos by_1[i] (show 0 < ((s.length + 1 : Nat) : Int) by omega)
    exact ⟨(by_1[i] % ((s.length + 1 : Nat) : Int)).toNat, by omega, by omega⟩
   rw [Qt3 N _ _ (by omega) (by omega), hk]
   simp only [Option.bind_some]
   rw [if_pos (by simp), if_pos (by simp [Nat.ble_eq]; omega), if_pos (by rw [Nat.ble_eq]; omega), if_pos (by simp [Nat.ble_eq]; omega), Z1 _ (by omega), show ((i : Int) + 1) = ((i + 1 : Nat) : Int) by push_cast; rfl]
   simp only [Int.toNat_natCast, List.take_length, List.drop_zero]
   obtain ⟨cs, h1, h2, h3⟩ := Qqc hb n (i + 1) (s.drop k) (acc ++ [s.take k]) (by rw [List.length_drop]; omega) (by simp [ha]) (by omega) (by omega)
   refine ⟨s.take k :: cs, by rw [h1]; simp, by simp [h2], by simp [h3]; omega⟩
  ·rw [if_neg (by omega), if_pos (by rw [Nat.ble_eq]; omega)]
   exact ⟨[s], rfl, by simp, by simp; omega⟩
theorem Qtq {N : Nat} (hN : N = 800000000) (s : List UInt8) (by_1 : List Int) (hb : by_1.length < 1000000) (hs : s.length < 1000000) : ∃ cs, Vg N s by_1 = some cs ∧ cs.flatten = s ∧ cs.length = by_1.length + 1 := by
 obtain ⟨cs, h1, h2, h3⟩ := Qqc (N := N) hb N 0 s [] hs rfl (by omega) (by omega)
 exact ⟨cs, by simpa [Vg] using h1, h2, by omega⟩
end
end Go.Av
namespace Go.Av
noncomputable section
open Go.Proofs
set_option maxRecDepth 100000
end
end Go.Av
namespace Go.Av
noncomputable section
open Go.Proofs
set_option maxRecDepth 100000
noncomputable def Q7k (l : Qd) (fs : List Q3) : List Q3 := fs.filter fun f => decide (Q13 f l = 0)
def Q38 (fs : List Q3) : List UInt8 := (fs.map Q4v).flatten
theorem Qna (a b : List Q3) : Q38 (a ++ b) = Q38 a ++ Q38 b := by simp [Q38]
theorem Qbj {l : Qd} (hr : Vw l = true) : ∀ fs : List Q3, (∀ f ∈ fs, FB f ∧ Q13 f l = 0) → Qt l (Q38 fs) = (fs.map Q3.nrm, [], ((Q38 fs).length : Int), 0)
 | [], _ => Qes l hr
 | f :: fs, h => by
  obtain ⟨hf, hc⟩ := h f (.head _)
  have hb := (Qlp hf hc (Q38 fs)).2
  have e : Q38 (f :: fs) = Q4v f ++ Q38 fs := by simp [Q38]
  have ih := Qbj hr fs fun g hg => h g (.tail _ hg)
  have hl : (Q4v f).length = Q41 f := Q6n
  rw [e, Q1x (by rw [hb]), hb]
  simp only [Int.toNat_natCast]
  rw [List.drop_append_of_le_length (by omega), List.drop_of_length_le (by omega), List.nil_append, ih]
  simp only [List.map_cons, List.length_append, hl]
  push_cast; rfl
theorem Qcc {l : Qd} : ∀ fs : List Q3, (∀ f ∈ fs, FB f ∧ Q13 f l = 0) → ((Q38 fs).length : Int) ≤ l.MaxPacket * fs.length
 | [], _ => by simp [Q38]
 | f :: fs, h => by
  obtain ⟨hf, hc⟩ := h f (.head _)
  have e : Q38 (f :: fs) = Q4v f ++ Q38 fs := by simp [Q38]
  have ih := Qcc fs fun g hg => h g (.tail _ hg)
  have hk := (Q5y hc).2.2.2.2.2
  have hl : (Q4v f).length = Q41 f := Q6n
  rw [e, List.length_append, List.length_cons]
  push_cast
  rw [Int.mul_add, Int.mul_one]
  omega
theorem Qk2 {l : Qd} {a b : List UInt8} (h : (Qt l (a ++ b)).2.2.2 = 0) : (Qt l a).2.2.2 = 0 := by
 have := Q7t (l := l) b _ a (Nat.le_refl _)
 by_cases he : (Qt l a).2.2.2 = 0
 ·exact he
 ·rw [if_pos he] at this
  rw [this] at h; exact h
theorem Qeo {N : Nat} (hN : N = 800000000) {l : Qd} (hr : Vw l = true) {s : List UInt8} {want : List Q3} (hs : s.length ≤ 50000) (hD : Qt l s = (want, [], (s.length : Int), 0)) {cs : List (List UInt8)} (hc : cs.flatten = s) (hl : cs.length ≤ 100) : ∀ (n i : Nat) (x : Qq1), i ≤ cs.length → cs.length - i < n →
  Qob x l (Qt l (cs.take i).flatten).2.1 (Qt l (cs.take i).flatten).2.2.1 (Qt l (cs.take i).flatten).2.2.2 →
  Qx N s want cs n (i : Int) x.l.MaxPacket x.l.MaxDepth x.from' x.at' x.need x.e x.next x.kept x.out (Qt l (cs.take i).flatten).1 = some true
 | 0, i, _, _, h, _ => by omega
 | n + 1, i, x, hi, hn, hx => by
  simp only [Qx, Qb, W2, Vb, Vi, Xr]
  by_cases h : i < cs.length
  ·have hlen := Qlc cs i
   have hle2 := Qlc cs (i + 1)
   have hft := Qnz cs i h
   rw [hc] at hlen hle2
   rw [if_pos (by omega)]
   simp only [idx, List.getElem?_eq_getElem h, Option.bind_some]
   obtain ⟨fs, x', h1, h2, h3, _⟩ := Qmk hN hr hx cs[i] (by rw [hft, List.length_append] at hle2; omega)
   rw [show Qy N ⟨⟨x.l.MaxPacket, x.l.MaxDepth⟩, x.kept, x.from', x.at', x.need, x.e, x.next, x.out⟩ cs[i] = _ from h1]
   simp only [Option.bind_some]
   rw [← hft] at h2 h3 ⊢
   have he : (Qt l (cs.take (i + 1)).flatten).2.2.2 = 0 := by
    refine Qk2 (b := (cs.drop (i + 1)).flatten) ?_
    rw [← List.flatten_append, List.take_append_drop, hc, hD]
   have hsz := Q33 (l := l) _ (cs.take i).flatten (Nat.le_refl _) (by omega)
   have hsz2 := Q33 (l := l) _ (cs.take (i + 1)).flatten (Nat.le_refl _) (by omega)
   have hfl : fs.length ≤ 50000 := by
    have := congrArg List.length h3
    rw [List.length_append] at this; omega
   have ih := Qeo hN hr hs hD hc hl n (i + 1) x' (by omega) (by omega) h2
   rw [Z1 _ (by omega), show ((i : Int) + 1) = ((i + 1 : Nat) : Int) by push_cast; rfl, if_neg (show ¬ ((Qt l (cs.take (i + 1)).flatten).2.2.2 ≠ 0) from fun k => k he)]
   rw [← h3] at ih
   by_cases hf : fs.length = 0
   ·have hf' : fs = [] := List.eq_nil_of_length_eq_zero hf
    subst hf'
    rw [List.append_nil] at ih
    rw [if_pos (show Nat.beq ([] : List Q3).length 0 = true from rfl)]; exact ih
   ·rw [if_neg (by simpa [Nat.beq_eq] using hf), if_pos (by rw [Nat.ble_eq]; omega)]; exact ih
  ·rw [if_neg (by omega)]
   have hi' : i = cs.length := by omega
   subst hi'
   rw [List.take_length, hc] at hx ⊢
   have hsz := Q33 (l := l) _ s (Nat.le_refl _) (by omega)
   rw [Qnt hN (fun f hf => by have := hsz.2 f hf; omega) (by omega)]
   rw [hD] at hx ⊢
   simp only [Option.bind_some, decide_true, if_true]
   rw [show Ye N ⟨⟨x.l.MaxPacket, x.l.MaxDepth⟩, x.kept, x.from', x.at', x.need, x.e, x.next, x.out⟩ = _ from Qsi hx]
   simp only [Option.bind_some, List.length_nil]
   rw [if_pos (by simp), Qvi hx]
   simp [Q5]
theorem Qfe {N : Nat} (hN : N = 800000000) {fs : List Q3} (ho : ∀ f ∈ fs, OkF f) (hl6 : fs.length ≤ 6) {cuts : List Int} (hcu : cuts.length ≤ 20) : ∀ (n i : Nat), i ≤ fs.length → fs.length - i < n → (∀ f ∈ fs.take i, FB f) →
  Qw N fs cuts ⟨4096, 6⟩ n (Q38 (Q7k ⟨4096, 6⟩ (fs.take i))) (i : Int) ((Q7k ⟨4096, 6⟩ (fs.take i)).map Q3.nrm) = some true
 | 0, i, _, h, _ => by omega
 | n + 1, i, hi, hn, hfb => by
  have hr : Vw ⟨4096, 6⟩ = true := by decide
  have hgood : ∀ f ∈ Q7k ⟨4096, 6⟩ (fs.take i), FB f ∧ Q13 f ⟨4096, 6⟩ = 0 := fun f hf => by
   obtain ⟨h1, h2⟩ := List.mem_filter.1 hf
   exact ⟨hfb f h1, by simpa using h2⟩
  have hgl : (Q7k ⟨4096, 6⟩ (fs.take i)).length ≤ 6 := by
   have := List.length_filter_le (fun f => decide (Q13 f ⟨4096, 6⟩ = 0)) (fs.take i)
   rw [List.length_take] at this
   unfold Q7k; omega
  have hjs := Qcc _ hgood
  have hjs2 : (Q38 (Q7k ⟨4096, 6⟩ (fs.take i))).length ≤ 24576 := by
   simp only [] at hjs; omega
  simp only [Qw, Qb, W2, Vi, Vb, Xr]
  by_cases h : i < fs.length
  ·rw [if_pos (by omega)]
   simp only [idx, List.getElem?_eq_getElem h, Option.bind_some]
   obtain ⟨b, hb, hlt⟩ := Qgp hN fs[i]
   rw [hb]
   simp only [Option.bind_some]
   cases hb' : b with
   | false => simp
   | true =>
    obtain ⟨l1, l2, l3⟩ := hlt hb'
    have hF := Qop l1 l3 (ho _ (List.getElem_mem h)).vals
    have htk : fs.take (i + 1) = fs.take i ++ [fs[i]] := List.take_succ_eq_append_getElem h
    have hfb' : ∀ f ∈ fs.take (i + 1), FB f := fun f hf => by
     rw [htk] at hf
     rcases List.mem_append.1 hf with hf | hf
     ·exact hfb f hf
     ·rw [List.mem_singleton.1 hf]; exact hF
    have ih := Qfe hN ho hl6 hcu n (i + 1) (by omega) (by omega) hfb'
    rw [if_neg (by simp), Qde hN _ _ hF]
    simp only [Option.bind_some]
    rw [Z1 _ (by omega), show ((i : Int) + 1) = ((i + 1 : Nat) : Int) by push_cast; rfl]
    by_cases hc : Q13 fs[i] ⟨4096, 6⟩ = 0
    ·have hg : Q7k ⟨4096, 6⟩ (fs.take (i + 1)) = Q7k ⟨4096, 6⟩ (fs.take i) ++ [fs[i]] := by
      rw [htk]; unfold Q7k; rw [List.filter_append]; simp [hc]
     have htot := (Q5y hc).2.2.2.2.2
     have hbl : (Q4v fs[i]).length = Q41 fs[i] := Q6n
     rw [if_neg (show ¬ (Q13 fs[i] ⟨4096, 6⟩ ≠ 0) from fun k => k hc)]
     simp only [] at htot ⊢
     rw [if_pos trivial, if_pos (by rw [Nat.ble_eq]; omega), Qge hN _ hF]
     simp only [Option.bind_some, List.length_map]
     rw [if_pos (by rw [Nat.ble_eq]; omega)]
     rw [hg, Qna, List.map_append] at ih
     simpa [Q38] using ih
    ·have hg : Q7k ⟨4096, 6⟩ (fs.take (i + 1)) = Q7k ⟨4096, 6⟩ (fs.take i) := by
      rw [htk]; unfold Q7k; rw [List.filter_append]; simp [hc]
     rw [if_pos hc, if_neg hc]
     rw [hg] at ih; exact ih
  ·rw [if_neg (by omega), Qpn hN, if_pos hr]
   simp only [Option.bind_some]
   rw [if_neg (by decide)]
   obtain ⟨cs, c1, c2, c3⟩ := Qtq hN (Q38 (Q7k ⟨4096, 6⟩ (fs.take i))) cuts (by omega) (by omega)
   rw [c1]
   simp only [Option.bind_some]
   have := Qeo hN hr (by omega) (Qbj hr _ hgood) c2 (by omega) N 0 ⟨⟨4096, 6⟩, [], 0, 0, 0, 0, Qu, []⟩ (by omega) (by omega) (by simpa using Quh ⟨4096, 6⟩ hr)
   rw [List.take_zero, List.flatten_nil, Qes _ hr] at this
   exact this
theorem Qnk {N : Nat} (hN : N = 800000000) (hlv : Wh N = some true) (fs : List Q3) (cuts : List Int) (ho : ∀ f ∈ fs, OkF f) : Y5 N fs cuts = some true := by
 simp only [Y5, hlv, Option.bind_some, Qb, Q2e, Xr, V2]
 rw [if_neg (by simp)]
 by_cases h1 : fs.length > 6
 ·rw [if_pos (by omega)]
 ·rw [if_neg (by omega)]
  by_cases h2 : cuts.length > 20
  ·rw [if_pos (by omega)]
  ·rw [if_neg (by omega)]
   exact Qfe hN ho (by omega) (by omega) N 0 (by omega) (by omega) (by simp)
theorem Qcv (fs : List Q3) (cuts : List Int) (ho : ∀ f ∈ fs, OkF f) : Y5 800000000 fs cuts = some true := Qnk rfl Qrc fs cuts ho
end
end Go.Av
