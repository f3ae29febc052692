/- The law. Part of a proof of a given statement: for every input the law returns true and the arguments read as before; no condition beyond the given row. -/
import Derived.Test.YtkemhhfbpniioaaGreatDoorPlainb
import Derived.Test.YtkemhhfbpniioaaGreatDoorOks
namespace Go.Av
noncomputable section
open Go.Proofs
set_option maxRecDepth 100000
theorem Qj2 (N : Nat) (code : Int) (v : Q0) (b : List UInt8) (hn : okU v.N') (h : v.Text.length < N) (hb : v.Text.length < 4611686018427387000) (hN : 50 < N) (hl : b.length < 4611686018427387000) (hl2 : v.Items.length < 4611686018427387000) : Yv N code v b = some (Q2k code v b) := by
 simp only [Yv, Q7x N code hN, Option.bind_some, Qb9 N code v hn h hb hN, Q7, V7, Qo, Q2k]
 by_cases hi : (ofS code).Items = false
 ·rw [if_pos (by simp [hi]), if_pos hi]
 ·rw [if_neg (by simpa using hi), if_neg hi]
  by_cases h0 : (ofS code).Width = 0
  ·rw [if_pos h0, if_pos h0]
   congr 1
   rw [Bool.eq_iff_iff, V7]; simp
  ·rw [if_neg h0, if_neg h0]
   by_cases h4 : (ofS code).Width = 4
   ·rw [if_pos h4]; simp [h4]
   ·rw [if_neg h4, Qn _ (by omega)]
    split
    ·rename_i h5
     rw [Xx] at h5
     congr 1
     rw [Bool.eq_iff_iff, Xx]; simp [h4]; omega
    ·rename_i h5
     rw [Xx] at h5
     congr 1
     symm
     rw [decide_eq_false_iff_not]; omega
theorem Q9m {N : Nat} {k0 : Int → Option Int} {items : List Q0} {ins : List (List UInt8)} {v1 : List Int} {i : Nat} {code : Int} (hlen : items.length = ins.length) (hc : v1[i]? = some code) (hb : items.length < 1000000000)
  (hR : ∀ p ∈ items.zip ins, Yv N code p.1 p.2 = some (Q2k code p.1 p.2)) : ∀ (n k : Nat) (all : Bool), k ≤ items.length → items.length - k < n →
  Y5 N k0 items ins v1 (i : Int) n all (k : Int) = if (all && Qj9 code ((items.zip ins).drop k)) = true then some code else k0 (IntKind.i64.wrap ((i : Int) + 1))
 | 0, k, all, _, h => by omega
 | n + 1, k, all, hk, hn => by
  simp only [Y5, Q7, Xx, Qo, Zu, hc, Option.bind_some]
  by_cases h : k < items.length
  ·rw [if_pos (by omega), List.getElem?_eq_getElem h, List.getElem?_eq_getElem (show k < ins.length by omega)]
   have hz : k < (items.zip ins).length := by simp; omega
   have hmem : (items[k], ins[k]) ∈ items.zip ins := by
    have := List.getElem_mem hz
    rwa [List.getElem_zip] at this
   have hd : (items.zip ins).drop k = (items[k], ins[k]) :: (items.zip ins).drop (k + 1) := by
    rw [List.drop_eq_getElem_cons hz, List.getElem_zip]
   simp only [Option.bind_some, hR _ hmem]
   cases all with
   | false => simp
   | true =>
    rw [if_pos rfl, Qn _ (by omega)]
    have ih := Q9m (N := N) (k0 := k0) hlen hc hb hR n (k + 1) (Q2k code items[k] ins[k]) (by omega) (by omega)
    rw [hd]
    simp only [Qj9, List.all_cons, Bool.true_and] at ih ⊢
    exact_mod_cast ih
  ·rw [if_neg (by omega), List.drop_of_length_le (by simp; omega)]
   cases all <;> simp [Qj9]
theorem Q9y {N : Nat} {items : List Q0} {ins : List (List UInt8)} {v1 : List Int} (hlen : items.length = ins.length) (hb : items.length < 1000000000) (hb1 : v1.length < 1000) (hN : items.length < N)
  (hR : ∀ c ∈ v1, ∀ p ∈ items.zip ins, Yv N c p.1 p.2 = some (Q2k c p.1 p.2)) : ∀ (n i : Nat), i ≤ v1.length → v1.length - i < n →
  Z6 N items ins v1 n (i : Int) = some (((v1.drop i).find? (fun c => Qj9 c (items.zip ins))).getD 0)
 | 0, i, _, h => by omega
 | n + 1, i, hi, hn => by
  simp only [Z6, Q7, Xx, U1]
  by_cases h : i < v1.length
  ·rw [if_pos (by omega)]
   have := Q9m (k0 := Z6 N items ins v1 n) hlen (List.getElem?_eq_getElem h) hb (hR _ (List.getElem_mem h)) N 0 true (by omega) (by omega)
   rw [show (0 : Int) = ((0 : Nat) : Int) from rfl, this, List.drop_zero, Bool.true_and, List.drop_eq_getElem_cons h, List.find?_cons]
   cases Qj9 v1[i] (items.zip ins) with
   | true => simp
   | false =>
    rw [if_neg (by simp), Qn _ (by omega)]
    exact_mod_cast Q9y hlen hb hb1 hN hR n (i + 1) (by omega) (by omega)
  ·rw [if_neg (by omega), List.drop_of_length_le (by omega)]; simp
theorem Q8z (N : Nat) (k : Int) (items : List Q0) (ins : List (List UInt8)) (hlen : items.length = ins.length) (hb : items.length < 1000000000) (hN : items.length < N) (hN2 : 50 < N)
  (hp : ∀ p ∈ items.zip ins, okU p.1.N' ∧ p.1.Text.length < N ∧ p.1.Text.length < 4611686018427387000 ∧ p.2.length < 4611686018427387000 ∧ p.1.Items.length < 4611686018427387000) :
  Xg N k items ins = some (Q0b k (items.zip ins)) := by
 have hc := Qam k
 simp only [Xg, Qfn N k hN2, Option.bind_some]
 have := Q9y (N := N) (v1 := Vl k) hlen hb (by omega) hN (fun c _ p hp' => by
  obtain ⟨h1, h2, h3, h4, h5⟩ := hp p hp'
  exact Qj2 N c p.1 p.2 h1 h2 h3 hN2 h4 h5) N 0 (by omega) (by omega)
 rw [List.drop_zero] at this
 exact this
theorem Qax (N : Nat) (code : Int) (v : Q0) (b : List UInt8) (hc : ofB code = true) (hn : okU v.N') (h : v.Text.length < N) (hb : v.Text.length < 4611686018427387000) (hN : 50 < N) (hl : b.length < 1000000000000000000) (hl2 : v.Items.length < 1000000000000000000) : Yx N code v b = some (W0 code v b) := by
 simp only [Yx, Q7x N code hN, Option.bind_some, Qlo N code v hn h hb hN, Q7, Qo, W0]
 by_cases hi : (ofS code).Items = false
 ·rw [if_pos (by simp [hi]), if_pos hi]
 ·rw [if_neg (by simpa using hi), if_neg hi]
  have hi : (ofS code).Items = true := by simpa using hi
  by_cases hs : (ofS code).Sized = false
  ·rw [if_pos (by simp [hs]), if_pos hs]
  ·rw [if_neg (by simpa using hs), if_neg hs]
   have hs : (ofS code).Sized = true := by simpa using hs
   obtain ⟨w1, _⟩ := (Gd hc hi).1 hs
   obtain ⟨w, hw, hw2⟩ : ∃ w : Nat, (ofS code).Width = (w : Int) ∧ w ≤ 4 := by
    rcases w1 with h | h
    ·exact ⟨1, h, by omega⟩
    ·exact ⟨4, h, by omega⟩
   rw [hw, Qn _ (by omega), show ((b.length : Int) + (w : Int)) = ((b.length + w : Nat) : Int) by push_cast; rfl, G2 _ (by omega), G2 _ (by omega),
    Qgs N _ w (by omega) (by omega) (by omega), Qgs N _ w (by omega) (by omega) (by omega)]
   simp only [Option.bind_some, Int.toNat_natCast, Zp, Nat.ble_eq, List.length_append]
   rw [if_pos (by omega), if_pos (by omega), List.append_assoc]
theorem Q99 {R : Q0 → Option (List UInt8)} {N : Nat} {l : List Q0} (hb : l.length < 1000000000) (hR : ∀ y ∈ l, R y = some y.inn) : ∀ (n i : Nat), i ≤ l.length → l.length - i < n →
  Ya R N l n (i : Int) ((l.take i).map Q0.inn) = some (l.map Q0.inn)
 | 0, i, _, h => by omega
 | n + 1, i, hi, hn => by
  simp only [Ya, Q7, Xx, Qo, Zu]
  by_cases h : i < l.length
  ·rw [if_pos (by omega), List.getElem?_eq_getElem h]
   simp only [Option.bind_some, hR _ (List.getElem_mem h)]
   rw [if_pos (by rw [Nat.ble_eq, List.length_map, List.length_take]; omega), Qn _ (by omega)]
   have e : (l.take i).map Q0.inn ++ [l[i].inn] = (l.take (i + 1)).map Q0.inn := by rw [List.take_succ_eq_append_getElem h, List.map_append]; rfl
   rw [e]
   exact_mod_cast Q99 (N := N) hb hR n (i + 1) (by omega) (by omega)
  ·rw [if_neg (by omega), List.take_of_length_le (by omega)]
theorem Q23 {α : Type} (f : Q0 → List α) (l : List Q0) (i : Nat) (h : i < l.length) : ((l.take i).map f).flatten ++ f l[i] = ((l.take (i + 1)).map f).flatten := by
 rw [List.take_succ_eq_append_getElem h, List.map_append, List.flatten_append]; simp
theorem Q6q (f : Q0 → List UInt8) (l : List Q0) (i : Nat) : ((l.take i).map f).flatten.length ≤ (l.map f).flatten.length := by
 conv => rhs; rw [← List.take_append_drop i l, List.map_append, List.flatten_append, List.length_append]
 omega
theorem Q79 {N : Nat} {v : Q0} {ins : List (List UInt8)} {c : Int} (hins : ins = v.Items.map Q0.inn) (hb : v.Items.length < 1000000000) (hl : (v.Items.map fun x => W0 c x x.inn).flatten.length < 1000000000000000000)
  (hR : ∀ y ∈ v.Items, Yx N c y y.inn = some (W0 c y y.inn)) : ∀ (n i : Nat), i ≤ v.Items.length → v.Items.length - i < n →
  Zy N v ins c n (Q1h c :: ((v.Items.take i).map fun x => W0 c x x.inn).flatten) (i : Int) = some (Q1h c :: (v.Items.map fun x => W0 c x x.inn).flatten)
 | 0, i, _, h => by omega
 | n + 1, i, hi, hn => by
  simp only [Zy, Q7, Xx, Qo, Zu]
  by_cases h : i < v.Items.length
  ·have hx : ins[i]? = some v.Items[i].inn := by rw [hins, List.getElem?_map, List.getElem?_eq_getElem h]; rfl
   have hft := Q23 (fun x => W0 c x x.inn) v.Items i h
   have h1 := Q6q (fun x => W0 c x x.inn) v.Items (i + 1)
   rw [← hft, List.length_append] at h1
   rw [if_pos (by omega), List.getElem?_eq_getElem h, hx]
   simp only [Option.bind_some, hR _ (List.getElem_mem h)]
   rw [if_pos (by simp only [Nat.ble_eq, List.length_cons]; omega), Qn _ (by omega), List.cons_append, hft]
   exact_mod_cast Q79 hins hb hl hR n (i + 1) (by omega) (by omega)
  ·rw [if_neg (by omega), List.take_of_length_le (by omega)]
theorem Q74 {R : Q0 → Option (List UInt8)} {N : Nat} {v : Q0} (hk : v.Kind ≠ 25) (hb : v.Items.length < 1000000000) (hl : (v.Items.map Q0.byt).flatten.length < 1000000000000000000)
  (hR : ∀ y ∈ v.Items, R y = some y.byt) : ∀ (n i : Nat), i ≤ v.Items.length → v.Items.length - i < n →
  Zg R N v n ((v.Items.take i).map Q0.byt).flatten (i : Int) = some (v.Items.map Q0.byt).flatten
 | 0, i, _, h => by omega
 | n + 1, i, hi, hn => by
  simp only [Zg, Q7, Xx, Jf, Qo, Zu]
  by_cases h : i < v.Items.length
  ·have hft := Q23 Q0.byt v.Items i h
   have h1 := Q6q Q0.byt v.Items (i + 1)
   rw [← hft, List.length_append] at h1
   rw [if_pos (by omega), if_pos hk, List.getElem?_eq_getElem h]
   simp only [Option.bind_some, hR _ (List.getElem_mem h)]
   rw [if_pos (by simp only [Nat.ble_eq]; omega), Qn _ (by omega), hft]
   exact_mod_cast Q74 (N := N) hk hb hl hR n (i + 1) (by omega) (by omega)
  ·rw [if_neg (by omega), List.take_of_length_le (by omega)]
theorem Qat {c : Int} (h : 0 ≤ c ∧ c < 256) : UInt8.ofNat (IntKind.u8.wrap c).toNat = Q1h c := by
 unfold Q1h
 rw [Qqo, Int.emod_eq_of_lt h.1 h.2]
theorem Q53 {v : Q0} (hw : v.wgt < 4000000000) : v.inn.length < 1000000000000000000 ∧ (v.Items.map Q0.byt).flatten.length < 1000000000000000000 ∧ (∀ c, (v.Items.map fun x => W0 c x x.inn).flatten.length < 1000000000000000000) ∧ ∀ x ∈ v.Items, x.wgt < 4000000000 := by
 have hwe := v.wgt_eq
 have h1 := (Gt v).1
 have s1 : ∀ (f : Q0 → List UInt8) (l : List Q0), (∀ x ∈ l, (f x).length ≤ x.wgt) → (l.map f).flatten.length ≤ Q0.wgts l := by
  intro f l
  induction l with
  | nil => intro _; simp
  | cons x l ihl =>
   intro h
   have h1 := h x (.head _)
   have h2 := ihl (fun y hy => h y (.tail _ hy))
   simp only [List.map_cons, List.flatten_cons, List.length_append, Q0.wgts]; omega
 refine ⟨by omega, ?_, fun c => ?_, fun x hx => by have := Qqu hx; omega⟩
 ·have := s1 Q0.byt v.Items (fun x _ => (Gt x).2.1); omega
 ·have := s1 (fun x => W0 c x x.inn) v.Items (fun x _ => by have := (Gt x).2.2 c; omega); omega
theorem Qsj (v : Q0) : ∀ m : Int, Fine v → W1 v m = 0 → v.wgt < 4000000000 → v.sz < 1000000000 →
  (∀ N, 3 * v.sz + 300099 ≤ N → X4 N v = some v.inn) ∧ ∀ N, 3 * v.sz + 300100 ≤ N → Yi N v = some v.byt := by
 induction v using Q0.ind with
 | h v ih =>
  intro m hf hc hw hz
  have hs := v.sz_eq
  have hsl := Q0.szs_len v.Items
  obtain ⟨l1, l2, l3, l4⟩ := Q53 hw
  have hit : ∀ x ∈ v.Items, ∃ m', W1 x m' = 0 := fun x hx => by
   rcases Ua hc with ⟨k1, k2, k3⟩ | ⟨_, _, _, _, _, _, k7⟩
   ·rw [(Uz k3).2.2.2.1] at hx; cases hx
   ·exact ⟨_, (k7 x hx).1⟩
  have hsx : ∀ x ∈ v.Items, x.sz + 1 ≤ v.sz := fun x hx => by have := Q0.szs_mem _ x hx; omega
  have hI : ∀ x ∈ v.Items, (∀ N, 3 * x.sz + 300099 ≤ N → X4 N x = some x.inn) ∧ ∀ N, 3 * x.sz + 300100 ≤ N → Yi N x = some x.byt := fun x hx => by
   obtain ⟨m', hm⟩ := hit x hx
   exact ih x hx m' (hf.items x hx) hm (l4 x hx) (by have := hsx x hx; omega)
  have htx := hf.text
  have hW : ∀ N, 3 * v.sz + 300099 ≤ N → X4 N v = some v.inn := by
   intro N hN
   obtain ⟨N, rfl⟩ : ∃ N', N = N' + 2 := ⟨N - 2, by omega⟩
   show W3 (Yi (N + 1)) (X4 (N + 1)) (Ul (N + 1)) (N + 1) v = _
   rw [Q9s]
   simp only [W3, Q7, V7]
   by_cases h4 : v.Kind = 24
   ·rw [if_pos h4, if_pos h4]
    rcases Ua hc with ⟨k1, k2, k3⟩ | ⟨k1, k2, k3, k4, k5, k6, k7⟩
    ·omega
    obtain ⟨s1, s2, s3, s4, s5⟩ := Q0a k4
    have hn := s2 h4
    have hin : Ul (N + 1) v.Items = some (v.Items.map Q0.inn) :=
     Q99 (R := X4 N) (N := N) (by omega) (fun x hx => (hI x hx).1 N (by have := hsx x hx; omega)) N 0 (by omega) (by omega)
    have hzip : v.Items.zip (v.Items.map Q0.inn) = v.prs := by
     unfold Q0.prs
     have : ∀ l : List Q0, l.zip (l.map Q0.inn) = l.map fun x => (x, x.inn) := by
      intro l
      induction l with
      | nil => rfl
      | cons x l ih => simp [ih]
     exact this _
    have hfi := Q8z (N + 1) v.N' v.Items (v.Items.map Q0.inn) (by simp) (by omega) (by omega) (by omega) (fun p hp => by
     rw [hzip] at hp
     unfold Q0.prs at hp
     obtain ⟨x, hx, rfl⟩ := List.mem_map.1 hp
     have f1 := hf.items x hx
     have f2 := f1.text
     have f3 := (Gt x).1
     have f4 := l4 x hx
     have f5 := hsx x hx
     have f6 := x.sz_eq
     have f7 := Q0.szs_len x.Items
     have f8 := x.wgt_eq
     exact ⟨f1.num, by simp only []; omega, by simp only []; omega, by simp only []; omega, by simp only []; omega⟩)
    rw [hzip] at hfi
    obtain ⟨e1, _⟩ := Qma hf hc h4
    obtain ⟨d1, _, _⟩ := Q1c _ _ e1
    rw [hin]
    simp only [Option.bind_some]
    rw [Qn _ (by omega), hfi]
    simp only [Option.bind_some]
    have hel : Q0b v.N' v.prs = v.elm := rfl
    rw [hel, Qat (Q3j d1)]
    have := Q79 (N := N + 1) (v := v) (c := v.elm) rfl (by omega) (l3 v.elm) (fun x hx => by
     have f1 := hf.items x hx
     have f2 := f1.text
     have f3 := (Gt x).1
     have f4 := l4 x hx
     have f5 := hsx x hx
     have f6 := x.sz_eq
     have f7 := Q0.szs_len x.Items
     have f8 := x.wgt_eq
     exact Qax (N + 1) v.elm x x.inn d1 f1.num (by omega) (by omega) (by omega) (by omega) (by omega)) (N + 1) 0 (by omega) (by omega)
    exact this
   ·rw [if_neg h4, if_neg h4]
    by_cases h5 : v.Kind = 25
    ·rw [if_pos h5]
     simp only [Zg, Q7, Xx, Jf, Qo]
     rw [if_neg (show ¬ (v.Kind ≠ 25) by omega)]
     simp
    ·rw [if_neg h5]
     have := Q74 (R := Yi (N + 1)) (N := N + 1) h5 (by omega) l2 (fun x hx => (hI x hx).2 (N + 1) (by have := hsx x hx; omega)) (N + 1) 0 (by omega) (by omega)
     exact this
  refine ⟨hW, fun N hN => ?_⟩
  obtain ⟨N, rfl⟩ : ∃ N', N = N' + 1 := ⟨N - 1, by omega⟩
  show Wk (Yi N) (X4 N) (Ul N) N v = _
  rw [Qgj]
  simp only [Wk, Q7, V7]
  by_cases h5 : v.Kind = 25
  ·rw [if_pos h5, if_pos h5]
   rcases Ua hc with ⟨k1, k2, k3⟩ | ⟨k1, k2, k3, k4, k5, k6, k7⟩
   ·omega
   have hl := (Q0a k4).2.2.2.1 h5
   match hI' : v.Items, hl with
   | [x, y], _ =>
    have hx : x ∈ v.Items := by rw [hI']; simp
    have hy : y ∈ v.Items := by rw [hI']; simp
    have e0 : idx [x, y] 0 = some x := rfl
    have e1 : idx [x, y] 1 = some y := rfl
    rw [e0, e1]
    have b1 := (Gt x).2.1
    have b2 := (Gt y).2.1
    have b3 := l4 x hx
    have b4 := l4 y hy
    simp only [Option.bind_some, (hI x hx).2 N (by have := hsx x hx; omega), (hI y hy).2 N (by have := hsx y hy; omega)]
    rw [if_pos (by simp only [Nat.ble_eq, List.length_cons, List.length_nil]; omega), if_pos (by simp only [Nat.ble_eq, List.length_append, List.length_cons, List.length_nil]; omega)]
    simp
  ·rw [if_neg h5, if_neg h5, hW N (by omega)]
   simp only [Option.bind_some]
   have hfi := Q8z N v.Kind [v] [v.inn] rfl (by simp) (by simp; omega) (by omega) (fun p hp => by
    have : p = (v, v.inn) := by simpa using hp
    subst this
    exact ⟨hf.num, by simp only []; omega, by simp only []; omega, by simp only []; omega, by simp only []; omega⟩)
   have hz' : [v].zip [v.inn] = [(v, v.inn)] := rfl
   rw [hfi, hz']
   simp only [Option.bind_some]
   have hco : Q0b v.Kind [(v, v.inn)] = v.cod := rfl
   obtain ⟨e1, _⟩ := Qgz hf hc h5
   obtain ⟨d1, _, _⟩ := Q1c _ _ e1
   have hdl := (Gt v).2.2 v.cod
   rw [hco, Qax N v.cod v v.inn d1 hf.num (by omega) (by omega) (by omega) (by omega) (by omega)]
   simp only [Option.bind_some]
   rw [if_pos (by simp only [Nat.ble_eq, List.length_cons, List.length_nil]; omega), Qat (Q3j d1)]
   rfl
theorem Q8i (N : Nat) (v : Q0) (m : Int) (hf : Fine v) (hw : v.wgt < 4000000000) (hz : v.sz < 1000000000) (hN : 3 * v.sz + 301000 ≤ N) :
  Xk N v m = some (if Xu v m ≠ 0 then ([], Xu v m) else (v.nrm.byt, 0)) := by
 simp only [Xk, Qek N v m hf (by omega) hz, Option.bind_some, Q7, Jf]
 by_cases h : Xu v m = 0
 ·rw [if_neg (by simp [h]), if_neg (by simp [h]), Qaz N v hf (by omega) hz]
  have hc : W1 v m = 0 := by
   unfold Xu at h
   split at h
   ·cases h
   ·exact h
  simp only [Option.bind_some, (Qsj v.nrm m (Qco hf) (Q8d v m hc) (by rw [Q9g]; exact hw) (by rw [Q5n]; exact hz)).2 N (by rw [Q5n]; omega)]
 ·rw [if_pos h, if_pos h]
end
end Go.Av
namespace Go.Av
noncomputable section
open Go.Proofs
set_option maxRecDepth 100000
abbrev Qf3 := Q1
mutual
def Q0.frm : Q0 → Qf3
 | .mk k n t is => ⟨⟨k, n, t, is⟩, Q0.frms is, if k = 24 then Q0.elm ⟨k, n, t, is⟩ else 0, if 22 ≤ k ∧ k ≤ 24 then ((Q0.inn ⟨k, n, t, is⟩).length : Int) else 0⟩
def Q0.frms : List Q0 → List Qf3
 | [] => []
 | v :: l => v.frm :: Q0.frms l
end
theorem Qkk : ∀ l, Q0.frms l = l.map Q0.frm
 | [] => rfl
 | v :: l => by rw [Q0.frms, Qkk l]; rfl
theorem Q7l (v : Q0) : v.frm = ⟨v, v.Items.map Q0.frm, if v.Kind = 24 then v.elm else 0, if 22 ≤ v.Kind ∧ v.Kind ≤ 24 then (v.inn.length : Int) else 0⟩ := by
 cases v; rw [Q0.frm, Qkk]
theorem Qin (v : Q0) : v.frm.v = v := by rw [Q7l]
theorem Q4a (v : Q0) : v.frm.kids = v.Items.map Q0.frm := by rw [Q7l]
theorem Q0n (l : List Qf3) : (Q1.rows l).length = l.length := by rw [Q1.rows_eq, U1]
theorem Qo2 (N : Nat) (code : Int) (v : Q0) (hc : ofB code = true) (hn : okU v.N') (h : v.Text.length < N) (hb : v.Text.length < 4611686018427387904) (hk : (ofS code).Kind ≠ 25) (hi : (ofS code).Items = true → 22 ≤ v.Kind ∧ v.Kind ≤ 24) (hl : v.inn.length < 1000000000000000000) :
  Zi N v.frm code = some (Q2k code v v.inn) := by
 simp only [Zi, X2, Qin, Option.bind_some, Qkx N code v hn h hb, Q7, V7, Q0n, Q4a, List.length_map, Q2k]
 by_cases hi' : (ofS code).Items = false
 ·rw [if_pos (by simp [hi']), if_pos hi']
 ·have hi' : (ofS code).Items = true := by simpa using hi'
  rw [if_neg (show ¬ ((!(ofS code).Items) = true) by simp [hi']), if_neg hk, if_neg (show ¬ ((ofS code).Items = false) by simp [hi'])]
  by_cases hs : (ofS code).Sized = true
  ·have hw := ((Gd hc hi').1 hs).1
   rw [if_neg (show ¬ ((!(ofS code).Sized) = true) by simp [hs]), if_neg (show ¬ (ofS code).Width = 0 by omega)]
   by_cases h4 : (ofS code).Width = 4
   ·rw [if_pos h4]; simp [h4]
   ·rw [if_neg h4, Q7l]
    simp only [if_pos (hi hi')]
    rw [Qn _ (by omega)]
    split
    ·rename_i h5
     rw [Q50] at h5
     congr 1
     rw [Bool.eq_iff_iff, Q50]; simp [h4]; omega
    ·rename_i h5
     rw [Q50] at h5
     congr 1
     symm
     rw [decide_eq_false_iff_not]; omega
  ·have hs : (ofS code).Sized = false := by simpa using hs
   rw [if_pos (show (!(ofS code).Sized) = true by simp [hs]), if_pos (Qm9 hc hi' hs)]
   congr 1
   rw [Bool.eq_iff_iff, V7]; simp
theorem Qbn {N : Nat} {k0 : Int → Option Int} {l : List Qf3} {s54 code : Int} {P : Qf3 → Bool} (hb : l.length < 1000000000) (hR : ∀ f ∈ l, Zi N f code = some (P f)) : ∀ (n k : Nat) (all : Bool), k ≤ l.length → l.length - k < n →
  Xc N k0 l s54 code n all (k : Int) = if (all && (l.drop k).all P) = true then some code else k0 (IntKind.i64.wrap (s54 + 1))
 | 0, k, all, _, h => by omega
 | n + 1, k, all, hk, hn => by
  simp only [Xc, Q7, Xx, Q0n, Zu]
  by_cases h : k < l.length
  ·rw [if_pos (by omega), List.getElem?_eq_getElem h, List.drop_eq_getElem_cons h]
   simp only [Option.bind_some, hR _ (List.getElem_mem h)]
   rw [Qn _ (by omega)]
   cases all with
   | false =>
    have ih := Qbn (N := N) (k0 := k0) (s54 := s54) hb hR n (k + 1) false (by omega) (by omega)
    rw [if_neg (by simp)]
    simp only [Bool.false_and] at ih ⊢
    exact_mod_cast ih
   | true =>
    have ih := Qbn (N := N) (k0 := k0) (s54 := s54) hb hR n (k + 1) (P l[k]) (by omega) (by omega)
    rw [if_pos rfl]
    simp only [List.all_cons, Bool.true_and]
    exact_mod_cast ih
  ·rw [if_neg (by omega), List.drop_of_length_le (by omega)]
   cases all <;> simp
theorem Qh2 {N : Nat} {l : List Qf3} {v1 : List Int} {P : Int → Qf3 → Bool} (hb : l.length < 1000000000) (hb1 : v1.length < 1000) (hN : l.length < N) (hR : ∀ c ∈ v1, ∀ f ∈ l, Zi N f c = some (P c f)) : ∀ (n i : Nat), i ≤ v1.length → v1.length - i < n →
  Yl N l v1 n (i : Int) = some (((v1.drop i).find? (fun c => l.all (P c))).getD 0)
 | 0, i, _, h => by omega
 | n + 1, i, hi, hn => by
  simp only [Yl, Q7, Xx, U1, Zu]
  by_cases h : i < v1.length
  ·rw [if_pos (by omega), List.getElem?_eq_getElem h]
   simp only [Option.bind_some]
   have := Qbn (k0 := Yl N l v1 n) (s54 := (i : Int)) hb (hR _ (List.getElem_mem h)) N 0 true (by omega) (by omega)
   rw [show (0 : Int) = ((0 : Nat) : Int) from rfl, this, List.drop_zero, Bool.true_and, List.drop_eq_getElem_cons h, List.find?_cons]
   cases l.all (P v1[i]) with
   | true => simp
   | false =>
    rw [if_neg (by simp), Qn _ (by omega)]
    exact_mod_cast Qh2 hb hb1 hN hR n (i + 1) (by omega) (by omega)
  ·rw [if_neg (by omega), List.drop_of_length_le (by omega)]; simp
theorem Qhj (N : Nat) (k : Int) (l : List Qf3) (P : Int → Qf3 → Bool) (hb : l.length < 1000000000) (hN : l.length < N) (hN2 : 10 < N) (hR : ∀ c ∈ Vl k, ∀ f ∈ l, Zi N f c = some (P c f)) : Wz N k l = some (((Vl k).find? (fun c => l.all (P c))).getD 0) := by
 have hc := Qam k
 simp only [Wz, Q0o, Option.bind_some]
 have := Qh2 (N := N) (v1 := Vl k) hb (by omega) hN hR N 0 (by omega) (by omega)
 rw [List.drop_zero] at this
 exact this
theorem Qdv (N : Nat) (k : Int) (l : List Q0) (hk : k ≠ 25) (hb : l.length < 1000000000) (hN : l.length < N) (hN2 : 10 < N) (hl : ∀ x ∈ l, x.Kind = k ∧ k ≤ 24 ∧ okU x.N' ∧ x.Text.length < N ∧ x.Text.length < 4611686018427387904 ∧ x.inn.length < 1000000000000000000) :
  Wz N k (l.map Q0.frm) = some (Q0b k (l.map fun x => (x, x.inn))) := by
 rw [Qhj N k (l.map Q0.frm) (fun c f => Q2k c f.v f.v.inn) (by simpa using hb) (by simpa using hN) hN2 (fun c hc f hf => by
  obtain ⟨x, hx, rfl⟩ := List.mem_map.1 hf
  obtain ⟨h1, h2, h3, h4, h5, h6⟩ := hl x hx
  obtain ⟨d1, d2, d3⟩ := Q1c _ _ hc
  rw [Qin]
  exact Qo2 N c x d1 h3 h4 h5 (by omega) (fun hi => by rw [(Qfe c d1).items, d3] at hi; simp at hi; omega) h6)]
 unfold Q0b Qj9
 congr 3
 funext c
 rw [List.all_map, List.all_map]
 congr 1
 funext x
 simp only [Function.comp, Qin]
theorem Qjz : Vl 25 = [0] := by decide +kernel
theorem Qbx (N : Nat) (v : Q0) (m : Int) (hf : Fine v) (hc : W1 v m = 0) (hw : v.wgt < 4000000000) (hN : 300100 ≤ N) : Yw N v.frm = some (if v.Kind = 25 then 0 else v.cod) := by
 have ht := hf.text
 have hk := Q4f hc
 simp only [Yw, Qin]
 by_cases h5 : v.Kind = 25
 ·rw [if_pos h5, h5, Qhj N 25 [v.frm] (fun _ _ => true) (by simp) (by simp; omega) (by omega) (fun c hc f hf => by
   rw [Qjz] at hc
   have : c = 0 := by simpa using hc
   subst this
   obtain ⟨o1, o2, o3⟩ := of0
   simp only [Zi, X2, Option.bind_some, Q7, V7]
   rw [if_neg (by simp [o3]), if_pos o2]), Qjz]
  rfl
 ·rw [if_neg h5]
  have := Qdv N v.Kind [v] h5 (by simp) (by simp; omega) (by omega) (fun x hx => by
   have : x = v := by simpa using hx
   subst this
   exact ⟨rfl, by omega, hf.num, by omega, by omega, (Q53 hw).1⟩)
  rw [show [v.frm] = [v].map Q0.frm from rfl, this]
  rfl
def Ui (s : List UInt8) : List Int := s.map fun b => (b.toNat : Int)
theorem Ux (s t : List UInt8) : Ui (s ++ t) = Ui s ++ Ui t := by simp [Ui]
theorem Je (s : List UInt8) : (Ui s).length = s.length := by simp [Ui]
theorem Qmf (N : Nat) (b : List Int) (s : List UInt8) (h : b.length + s.length < 17592186040000) : Xj N ⟨b⟩ s = some ((), ⟨b ++ Ui s⟩) := by
 simp only [Xj, Q7]
 split
 ·rename_i h1
  have : s = [] := List.length_eq_zero_iff.1 (by simpa using h1)
  subst this
  simp [Ui]
 ·rw [if_pos (by rw [Nat.ble_eq]; omega)]; rfl
theorem Q24 (N : Nat) (b : List Int) (n w : Nat) (hn : n < 9223372036854775808) (hw : w ≤ 8) (hN : 10 < N) (h : b.length < 17592186030000) : Qu N ⟨b⟩ (n : Int) (w : Int) = some ((), ⟨b ++ Ui (Uk n w)⟩) := by
 simp only [Qu]
 rw [G2 _ (by omega), Q3k N n w (by omega) hw hN]
 simp only [Option.bind_some]
 rw [Qmf N b _ (by rw [Zp]; omega)]
 rfl
theorem Qsg {c : Int} (h : 0 ≤ c ∧ c < 256) : Uk c.toNat 1 = [Q1h c] := by
 rw [Q40]
 simp only [Nat.pow_zero, Nat.div_one, Uk, Q1h]
 rw [Nat.mod_eq_of_lt (by omega)]
theorem Qt0 {R : Q2 → Qf3 → Option (Unit × Q2)} {N : Nat} {f : Qf3} {l : List Q0} (hk : f.kids = l.map Q0.frm) (hb : l.length < 1000000000) {b : List Int} (hbl : b.length + (l.map Q0.byt).flatten.length < 17592186030000)
  (hR : ∀ x ∈ l, ∀ b : List Int, b.length + x.byt.length < 17592186030000 → R ⟨⟨b⟩⟩ x.frm = some ((), ⟨⟨b ++ Ui x.byt⟩⟩)) : ∀ (n i : Nat), i ≤ l.length → l.length - i < n →
  Zz R N f n (i : Int) (b ++ Ui ((l.take i).map Q0.byt).flatten) = some ((), ⟨⟨b ++ Ui (l.map Q0.byt).flatten⟩⟩) ∧
  Zw R N f n (i : Int) (b ++ Ui ((l.take i).map Q0.byt).flatten) = some ((), ⟨⟨b ++ Ui (l.map Q0.byt).flatten⟩⟩)
 | 0, i, _, h => by omega
 | n + 1, i, hi, hn => by
  simp only [Zz, Zw, Q7, Xx, Q0n, hk, List.length_map, Zu, List.getElem?_map]
  by_cases h : i < l.length
  ·have hft := Q23 Q0.byt l i h
   have h1 := Q6q Q0.byt l (i + 1)
   rw [← hft, List.length_append] at h1
   rw [if_pos (by omega), if_pos (by omega), List.getElem?_eq_getElem h]
   simp only [Option.map_some, Option.bind_some, hR _ (List.getElem_mem h) _ (show (b ++ Ui ((l.take i).map Q0.byt).flatten).length + l[i].byt.length < 17592186030000 by rw [List.length_append, Je]; omega)]
   rw [Qn _ (by omega), List.append_assoc, ← Ux, hft]
   obtain ⟨ih1, ih2⟩ := Qt0 (N := N) hk hb hbl hR n (i + 1) (by omega) (by omega)
   exact ⟨by exact_mod_cast ih1, by exact_mod_cast ih2⟩
  ·rw [if_neg (by omega), if_neg (by omega), List.take_of_length_le (by omega)]
   exact ⟨rfl, rfl⟩
theorem Qu8 {R : Q2 → Int → Qf3 → Option (Unit × Q2)} {N : Nat} {f : Qf3} {l : List Q0} {c : Int} (hk : f.kids = l.map Q0.frm) (hel : f.element = c) (hb : l.length < 1000000000) {b : List Int} (hbl : b.length + (l.map fun x => W0 c x x.inn).flatten.length < 17592186030000)
  (hR : ∀ x ∈ l, ∀ b : List Int, b.length + (W0 c x x.inn).length < 17592186030000 → R ⟨⟨b⟩⟩ c x.frm = some ((), ⟨⟨b ++ Ui (W0 c x x.inn)⟩⟩)) : ∀ (n i : Nat), i ≤ l.length → l.length - i < n →
  Y1 R N f n (i : Int) (b ++ Ui ((l.take i).map fun x => W0 c x x.inn).flatten) = some ((), ⟨⟨b ++ Ui (l.map fun x => W0 c x x.inn).flatten⟩⟩)
 | 0, i, _, h => by omega
 | n + 1, i, hi, hn => by
  simp only [Y1, Q7, Xx, Q0n, hk, hel, List.length_map, Zu, List.getElem?_map]
  by_cases h : i < l.length
  ·have hft := Q23 (fun x => W0 c x x.inn) l i h
   have h1 := Q6q (fun x => W0 c x x.inn) l (i + 1)
   rw [← hft, List.length_append] at h1
   rw [if_pos (by omega), List.getElem?_eq_getElem h]
   simp only [Option.map_some, Option.bind_some, hR _ (List.getElem_mem h) _ (show (b ++ Ui ((l.take i).map fun x => W0 c x x.inn).flatten).length + (W0 c l[i] l[i].inn).length < 17592186030000 by rw [List.length_append, Je]; omega)]
   rw [Qn _ (by omega), List.append_assoc, ← Ux, hft]
   exact_mod_cast Qu8 (N := N) hk hel hb hbl hR n (i + 1) (by omega) (by omega)
  ·rw [if_neg (by omega), List.take_of_length_le (by omega)]
theorem Ql6 {code : Int} (h : ofB code = true) (hi : (ofS code).Items = true) (hs : (ofS code).Sized = true) : ∃ w : Nat, (ofS code).Width = (w : Int) ∧ w ≤ 4 := by
 rcases ((Gd h hi).1 hs).1 with h | h
 ·exact ⟨1, h, by omega⟩
 ·exact ⟨4, h, by omega⟩
def WP (v : Q0) : Prop :=
  (∀ c, (ofB c = true ∧ (ofS c).Kind = v.Kind ∧ v.Kind ≠ 25 ∧ Q2k c v v.inn = true) → ∀ N, 2 * v.sz + 300999 ≤ N → ∀ b : List Int, b.length + (W0 c v v.inn).length < 17592186030000 → X6 N ⟨⟨b⟩⟩ c v.frm = some ((), ⟨⟨b ++ Ui (W0 c v v.inn)⟩⟩)) ∧
  ∀ N, 2 * v.sz + 301000 ≤ N → ∀ b : List Int, b.length + v.byt.length < 17592186030000 → Z0 N ⟨⟨b⟩⟩ v.frm = some ((), ⟨⟨b ++ Ui v.byt⟩⟩)
theorem Qmh (v : Q0) : ∀ m : Int, Fine v → W1 v m = 0 → v.wgt < 4000000000 → v.sz < 1000000000 → WP v := by
 induction v using Q0.ind with
 | h v ih =>
  intro m hf hc hw hz
  have hs := v.sz_eq
  have hsl := Q0.szs_len v.Items
  obtain ⟨l1, l2, l3, l4⟩ := Q53 hw
  have htx := hf.text
  have hit : ∀ x ∈ v.Items, ∃ m', W1 x m' = 0 := fun x hx => by
   rcases Ua hc with ⟨k1, k2, k3⟩ | ⟨_, _, _, _, _, _, k7⟩
   ·rw [(Uz k3).2.2.2.1] at hx; cases hx
   ·exact ⟨_, (k7 x hx).1⟩
  have hsx : ∀ x ∈ v.Items, x.sz + 1 ≤ v.sz := fun x hx => by have := Q0.szs_mem _ x hx; omega
  have hI : ∀ x ∈ v.Items, WP x := fun x hx => by
   obtain ⟨m', hm⟩ := hit x hx
   exact ih x hx m' (hf.items x hx) hm (l4 x hx) (by have := hsx x hx; omega)
  have hP : ∀ c, (ofB c = true ∧ (ofS c).Kind = v.Kind ∧ v.Kind ≠ 25 ∧ Q2k c v v.inn = true) → ∀ N, 2 * v.sz + 300999 ≤ N → ∀ b : List Int, b.length + (W0 c v v.inn).length < 17592186030000 → X6 N ⟨⟨b⟩⟩ c v.frm = some ((), ⟨⟨b ++ Ui (W0 c v v.inn)⟩⟩) := by
   rintro c ⟨c1, c2, c3, c4⟩ N hN b hb
   obtain ⟨N, rfl⟩ : ∃ N', N = N' + 1 := ⟨N - 1, by omega⟩
   show Y4 (Z0 N) (X6 N) N ⟨⟨b⟩⟩ c v.frm = _
   simp only [Y4, X2, Qin, Option.bind_some, Q7, V7, Q0n, Q4a, List.length_map]
   have hd : W0 c v v.inn = if (ofS c).Items = false then (Qmp c v).1 else if (ofS c).Sized = false then [] else Uk (v.inn.length + (ofS c).Width.toNat) (ofS c).Width.toNat ++ (Uk v.Items.length (ofS c).Width.toNat ++ v.inn) := rfl
   by_cases hi : (ofS c).Items = false
   ·rw [if_pos (by simp [hi]), Qrp N c v hf.num (by omega) (by omega) (by omega)]
    rw [if_pos hi] at hd
    rw [hd] at hb ⊢
    simp only [Option.bind_some]
    rw [Qmf N b _ (by omega)]
    rfl
   ·have hi : (ofS c).Items = true := by simpa using hi
    rw [if_neg (by simp [hi])]
    rw [if_neg (by simp [hi])] at hd
    have hkk : 22 ≤ v.Kind ∧ v.Kind ≤ 24 := by
     have h1 := hi
     rw [(Qfe c c1).items, c2] at h1
     have := Q4f hc
     simp at h1; omega
    by_cases hs' : (ofS c).Sized = true
    ·rw [if_pos hs']
     rw [if_neg (by simp [hs'])] at hd
     obtain ⟨w, hw1, hw2⟩ := Ql6 c1 hi hs'
     rw [hw1, Int.toNat_natCast] at hd
     rw [hd] at hb ⊢
     simp only [List.length_append, Zp] at hb
     have hin : v.frm.inner = (v.inn.length : Int) := by rw [Q7l]; simp only [if_pos hkk]
     rw [hw1, hin, Qn _ (by omega), show ((w : Int) + (v.inn.length : Int)) = ((v.inn.length + w : Nat) : Int) by push_cast; omega,
      Q24 N b _ w (by omega) (by omega) (by omega) (by omega)]
     simp only [Option.bind_some]
     rw [Q24 N _ _ w (by omega) (by omega) (by omega) (by rw [List.length_append, Je, Zp]; omega)]
     simp only [Option.bind_some, c2]
     by_cases h4 : v.Kind = 24
     ·rw [if_pos h4]
      obtain ⟨e1, e2⟩ := Qma hf hc h4
      obtain ⟨d1, d2, d3⟩ := Q1c _ _ e1
      have hr := Q3j d1
      have hel : v.frm.element = v.elm := by rw [Q7l]; simp only [if_pos h4]
      have hin2 := Q9s v
      rw [if_pos h4] at hin2
      have hl2 := congrArg List.length hin2
      simp only [List.length_cons] at hl2
      rw [hel, show v.elm = ((v.elm.toNat : Nat) : Int) by omega, show (1 : Int) = ((1 : Nat) : Int) from rfl,
       Q24 N _ _ 1 (by omega) (by omega) (by omega) (by simp only [List.length_append, Je, Zp]; omega)]
      simp only [Option.bind_some]
      rw [Qsg hr]
      rcases Ua hc with ⟨k1, k2, k3⟩ | ⟨k1, k2, k3, k4, k5, k6, k7⟩
      ·omega
      have hnn := (Q0a k4).2.1 h4
      have := Qu8 (R := X6 N) (N := N) (f := v.frm) (l := v.Items) (c := v.elm) (Q4a v) hel (by omega) (b := b ++ Ui (Uk (v.inn.length + w) w) ++ Ui (Uk v.Items.length w) ++ Ui [Q1h v.elm])
       (by simp only [List.length_append, Je, Zp, List.length_cons, List.length_nil]; omega)
       (fun x hx b' hb' => (hI x hx).1 v.elm ⟨d1, by
        have := (k7 x hx).2 h4
        rw [Q3b (k7 x hx).1] at this
        rw [d3, this], by
        have := (k7 x hx).2 h4
        rw [Q3b (k7 x hx).1] at this
        omega, e2 x hx⟩ N (by have := hsx x hx; omega) b' hb') N 0 (by omega) (by omega)
      simp only [List.take_zero, List.map_nil, List.flatten_nil, Ui, List.append_nil] at this
      have e : (b ++ Ui (Uk (v.inn.length + w) w) ++ Ui (Uk v.Items.length w) ++ Ui [Q1h v.elm] ++ Ui ((v.Items.map fun x => W0 v.elm x x.inn).flatten)) = b ++ Ui (Uk (v.inn.length + w) w ++ (Uk v.Items.length w ++ v.inn)) := by
       have hi3 : Ui v.inn = Ui [Q1h v.elm] ++ Ui ((v.Items.map fun x => W0 v.elm x x.inn).flatten) := by rw [← Ux]; exact congrArg Ui hin2
       rw [Ux, Ux, hi3]
       simp only [List.append_assoc]
      rw [← e]
      exact this
     ·rw [if_neg h4]
      have hin2 := Q9s v
      rw [if_neg h4, if_neg c3] at hin2
      have hl2 := congrArg List.length hin2
      have := (Qt0 (R := Z0 N) (N := N) (f := v.frm) (l := v.Items) (Q4a v) (by omega) (b := b ++ Ui (Uk (v.inn.length + w) w) ++ Ui (Uk v.Items.length w))
       (by simp only [List.length_append, Je, Zp]; omega)
       (fun x hx b' hb' => (hI x hx).2 N (by have := hsx x hx; omega) b' hb') N 0 (by omega) (by omega)).1
      simp only [List.take_zero, List.map_nil, List.flatten_nil, Ui, List.append_nil] at this
      have e : (b ++ Ui (Uk (v.inn.length + w) w) ++ Ui (Uk v.Items.length w) ++ Ui (v.Items.map Q0.byt).flatten) = b ++ Ui (Uk (v.inn.length + w) w ++ (Uk v.Items.length w ++ v.inn)) := by
       rw [Ux, Ux, ← hin2]
       simp only [List.append_assoc]
      rw [← e]
      exact this
    ·have hs' : (ofS c).Sized = false := by simpa using hs'
     rw [if_neg (by simp [hs'])]
     rw [if_pos hs'] at hd
     have hk := (Gd c1 hi).2 hs'
     unfold Q2k at c4
     rw [if_neg (by simp [hi]), if_pos (Qm9 c1 hi hs')] at c4
     have hl0 : v.Items = [] := List.length_eq_zero_iff.1 (by simpa using c4)
     rw [hd, if_neg (by omega)]
     have := (Qt0 (R := Z0 N) (N := N) (f := v.frm) (l := v.Items) (Q4a v) (by omega) (b := b) (by rw [hl0]; simp; omega) (fun x hx => by rw [hl0] at hx; cases hx) N 0 (by omega) (by omega)).2
     rw [hl0] at this
     simpa [Ui] using this
  refine ⟨hP, fun N hN b hb => ?_⟩
  obtain ⟨N, rfl⟩ : ∃ N', N = N' + 1 := ⟨N - 1, by omega⟩
  show Xp (Z0 N) (X6 N) N ⟨⟨b⟩⟩ v.frm = _
  simp only [Xp, Qbx N v m hf hc hw (by omega), Option.bind_some]
  have hbe := Qgj v
  have hbl := congrArg List.length hbe
  by_cases h5 : v.Kind = 25
  ·rw [if_pos h5] at hbe hbl ⊢
   simp only [List.length_cons] at hbl
   have hn := Q24 N b 0 1 (by omega) (by omega) (by omega) (by omega)
   rw [show ((0 : Nat) : Int) = 0 from rfl, show ((1 : Nat) : Int) = 1 from rfl] at hn
   rw [hn]
   simp only [Option.bind_some]
   obtain ⟨N, rfl⟩ : ∃ N', N = N' + 1 := ⟨N - 1, by omega⟩
   show ((Y4 (Z0 N) (X6 N) N ⟨⟨b ++ Ui (Uk 0 1)⟩⟩ 0 v.frm).bind _) = _
   obtain ⟨o1, o2, o3⟩ := of0
   have o4 : (ofS 0).Sized = false := by decide +kernel
   simp only [Y4, X2, Option.bind_some, Q7, V7]
   rw [if_neg (by simp [o3]), if_neg (by simp [o4]), if_neg (by omega)]
   have := (Qt0 (R := Z0 N) (N := N) (f := v.frm) (l := v.Items) (Q4a v) (by omega) (b := b ++ Ui (Uk 0 1))
    (by simp only [List.length_append, Je, Zp]; omega)
    (fun x hx b' hb' => (hI x hx).2 N (by have := hsx x hx; omega) b' hb') N 0 (by omega) (by omega)).2
   simp only [List.take_zero, List.map_nil, List.flatten_nil, Ui, List.append_nil] at this
   have h0 : (((0 : Nat) : Int)) = 0 := rfl
   rw [h0] at this
   simp only [Ui] at *
   rw [this]
   simp only [Option.bind_some]
   rw [hbe]
   simp [Uk]
  ·rw [if_neg h5] at hbe hbl ⊢
   simp only [List.length_cons] at hbl
   obtain ⟨g1, g2⟩ := Qgz hf hc h5
   obtain ⟨d1, d2, d3⟩ := Q1c _ _ g1
   have hr := Q3j d1
   have hn := Q24 N b v.cod.toNat 1 (by omega) (by omega) (by omega) (by omega)
   rw [Qsg hr, show ((v.cod.toNat : Nat) : Int) = v.cod by omega, show ((1 : Nat) : Int) = 1 from rfl] at hn
   rw [hn]
   simp only [Option.bind_some]
   rw [hP v.cod ⟨d1, d3, h5, g2⟩ N (by omega) _ (by rw [List.length_append, Je]; simp; omega)]
   simp only [Option.bind_some]
   rw [hbe]
   simp [Ui]
end
end Go.Av
namespace Go.Av
noncomputable section
open Go.Proofs
set_option maxRecDepth 100000
theorem Qmg (v : Q0) : v.byt.length = 1 + (if v.Kind = 25 then (v.Items.map Q0.byt).flatten.length else (W0 v.cod v v.inn).length) := by
 rw [Qgj]
 split <;> simp <;> omega
theorem Qgx {R : Qf3 → Int → Option Int} {N : Nat} {f : Qf3} {l : List Q0} (hk : f.kids = l.map Q0.frm) (hb : l.length < 1000000000) (hl : (l.map Q0.byt).flatten.length < 1000000000000000000) (hN : 300100 ≤ N)
  (hv : ∀ x ∈ l, (∃ m, W1 x m = 0) ∧ Fine x ∧ x.wgt < 4000000000) (hR : ∀ x ∈ l, R x.frm (if x.Kind = 25 then 0 else x.cod) = some ((if x.Kind = 25 then (x.Items.map Q0.byt).flatten.length else (W0 x.cod x x.inn).length : Nat) : Int)) : ∀ (n i : Nat), i ≤ l.length → l.length - i < n →
  Y6 R N f n (((l.take i).map Q0.byt).flatten.length : Nat) (i : Int) = some (((l.map Q0.byt).flatten.length : Nat) : Int)
 | 0, i, _, h => by omega
 | n + 1, i, hi, hn => by
  simp only [Y6, Q7, Xx, Q0n, hk, List.length_map, Zu, List.getElem?_map]
  by_cases h : i < l.length
  ·have hft := Q23 Q0.byt l i h
   have h1 := Q6q Q0.byt l (i + 1)
   rw [← hft, List.length_append] at h1
   obtain ⟨⟨m, h2⟩, h3, h4⟩ := hv _ (List.getElem_mem h)
   rw [if_pos (by omega), List.getElem?_eq_getElem h]
   simp only [Option.map_some, Option.bind_some, Qbx N l[i] m h3 h2 h4 hN, hR _ (List.getElem_mem h)]
   have hbl := Qmg l[i]
   have e : (((l.take i).map Q0.byt).flatten.length : Int) + IntKind.i64.wrap (1 + ((if l[i].Kind = 25 then (l[i].Items.map Q0.byt).flatten.length else (W0 l[i].cod l[i] l[i].inn).length : Nat) : Int)) = ((((l.take (i + 1)).map Q0.byt).flatten.length : Nat) : Int) := by
    rw [← hft, List.length_append, hbl]
    rw [Qn _ (by omega)]
    push_cast; rfl
   rw [e, Qn _ (by rw [← hft, List.length_append]; omega), Qn _ (by omega)]
   exact_mod_cast Qgx (N := N) hk hb hl hN hv hR n (i + 1) (by omega) (by omega)
  ·rw [if_neg (by omega), List.take_of_length_le (by omega)]
def FP (v : Q0) : Prop :=
 (∀ N, 2 * v.sz + 301000 ≤ N → ∀ c, (ofB c = true ∧ (ofS c).Kind = v.Kind ∧ v.Kind ≠ 25 ∧ Q2k c v v.inn = true) → Zj N v.frm c = some ((W0 c v v.inn).length : Int)) ∧
 (∀ N, 2 * v.sz + 301000 ≤ N → v.Kind = 25 → Zj N v.frm 0 = some ((v.Items.map Q0.byt).flatten.length : Int)) ∧
 ∀ N, 2 * v.sz + 300999 ≤ N → ∀ e i, Zb N ⟨v, v.Items.map Q0.frm, e, i⟩ = some ((v.Items.map Q0.byt).flatten.length : Int)
theorem Qfy (v : Q0) : ∀ m : Int, Fine v → W1 v m = 0 → v.wgt < 4000000000 → v.sz < 1000000000 → FP v := by
 induction v using Q0.ind with
 | h v ih =>
  intro m hf hc hw hz
  have hs := v.sz_eq
  have hsl := Q0.szs_len v.Items
  obtain ⟨l1, l2, l3, l4⟩ := Q53 hw
  have htx := hf.text
  have hit : ∀ x ∈ v.Items, ∃ m', W1 x m' = 0 := fun x hx => by
   rcases Ua hc with ⟨k1, k2, k3⟩ | ⟨_, _, _, _, _, _, k7⟩
   ·rw [(Uz k3).2.2.2.1] at hx; cases hx
   ·exact ⟨_, (k7 x hx).1⟩
  have hsx : ∀ x ∈ v.Items, x.sz + 1 ≤ v.sz := fun x hx => by have := Q0.szs_mem _ x hx; omega
  have hI : ∀ x ∈ v.Items, FP x := fun x hx => by
   obtain ⟨m', hm⟩ := hit x hx
   exact ih x hx m' (hf.items x hx) hm (l4 x hx) (by have := hsx x hx; omega)
  have hW : ∀ N, 2 * v.sz + 300999 ≤ N → ∀ e i, Zb N ⟨v, v.Items.map Q0.frm, e, i⟩ = some ((v.Items.map Q0.byt).flatten.length : Int) := by
   intro N hN e i
   obtain ⟨N, rfl⟩ : ∃ N', N = N' + 1 := ⟨N - 1, by omega⟩
   have := Qgx (R := Zj N) (N := N) (f := ⟨v, v.Items.map Q0.frm, e, i⟩) (l := v.Items) rfl (by omega) l2 (by omega) (fun x hx => ⟨hit x hx, hf.items x hx, l4 x hx⟩) (fun x hx => by
    obtain ⟨p1, p2, _⟩ := hI x hx
    obtain ⟨m', hm⟩ := hit x hx
    have := hsx x hx
    by_cases h5 : x.Kind = 25
    ·rw [if_pos h5, if_pos h5]; exact p2 N (by omega) h5
    ·rw [if_neg h5, if_neg h5]
     obtain ⟨g1, g2⟩ := Qgz (hf.items x hx) hm h5
     obtain ⟨d1, d2, d3⟩ := Q1c _ _ g1
     exact p1 N (by omega) x.cod ⟨d1, d3, h5, g2⟩) N 0 (by omega) (by omega)
   exact this
  refine ⟨fun N hN c hcc => ?_, fun N hN h5 => ?_, hW⟩
  ·obtain ⟨c1, c2, c3, c4⟩ := hcc
   obtain ⟨N, rfl⟩ : ∃ N', N = N' + 1 := ⟨N - 1, by omega⟩
   show Yy (Zj N) (Zb N) N v.frm c = _
   simp only [Yy, X2, Option.bind_some, Q7, V7, Qin]
   rw [if_neg (by omega)]
   have hww := Qhb c
   by_cases hi : (ofS c).Items = true
   ·rw [if_pos hi]
    have hkk : 22 ≤ v.Kind ∧ v.Kind ≤ 24 := by
     have h1 := hi
     rw [(Qfe c c1).items, c2] at h1
     have := Q4f hc
     simp at h1; omega
    by_cases hs' : (ofS c).Sized = true
    ·rw [if_pos hs']
     have hin : v.frm.inner = (v.inn.length : Int) := by rw [Q7l]; simp only [if_pos hkk]
     have hd : (W0 c v v.inn).length = (ofS c).Width.toNat + ((ofS c).Width.toNat + v.inn.length) := by
      unfold W0
      rw [if_neg (by simp [hi]), if_neg (by simp [hs'])]
      simp [Zp]
     rw [hin, hd, Qn (2 * (ofS c).Width) (by omega), Qn _ (by omega)]
     congr 1
     omega
    ·have hs' : (ofS c).Sized = false := by simpa using hs'
     rw [if_neg (by simp [hs']), Qm9 c1 hi hs']
     have hd : W0 c v v.inn = [] := by
      unfold W0
      rw [if_neg (by simp [hi]), if_pos hs']
     rw [hd]; rfl
   ·have hi : (ofS c).Items = false := by simpa using hi
    rw [if_neg (by simp [hi])]
    have hf' : Q0v c v = true := by unfold Q2k at c4; rw [if_pos hi] at c4; exact c4
    have hd : W0 c v v.inn = Gu (ofS c) v := by unfold W0; rw [if_pos hi, Qs6 hf']
    have hl := Q7y hf'
    rw [hd, hl]
    by_cases hs' : (ofS c).Sized = true
    ·rw [if_pos hs', if_pos hs', Qn _ (by omega)]
     congr 1; push_cast; omega
    ·rw [if_neg hs', if_neg hs']
     congr 1; push_cast; omega
  ·obtain ⟨N, rfl⟩ : ∃ N', N = N' + 1 := ⟨N - 1, by omega⟩
   show Yy (Zj N) (Zb N) N v.frm 0 = _
   obtain ⟨o1, o2, o3⟩ := of0
   simp only [Yy, X2, Option.bind_some, Q7, V7]
   rw [if_pos o2]
   rw [Q7l, hW N (by omega)]
   rfl
theorem Qh3 {N : Nat} {f : Qf3} {l : List Q0} {c : Int} (hk : f.kids = l.map Q0.frm) (he : f.element = c) (hb : l.length < 1000000000) (hl : (l.map fun x => W0 c x x.inn).flatten.length < 1000000000000000000)
  (hR : ∀ x ∈ l, Zj N x.frm c = some ((W0 c x x.inn).length : Int)) : ∀ (n i : Nat), i ≤ l.length → l.length - i < n →
  Y8 N f n ((1 + ((l.take i).map fun x => W0 c x x.inn).flatten.length : Nat) : Int) (i : Int) = some ((1 + (l.map fun x => W0 c x x.inn).flatten.length : Nat) : Int)
 | 0, i, _, h => by omega
 | n + 1, i, hi, hn => by
  simp only [Y8, Q7, Xx, Q0n, hk, he, List.length_map, Zu, List.getElem?_map]
  by_cases h : i < l.length
  ·have hft := Q23 (fun x => W0 c x x.inn) l i h
   have h1 := Q6q (fun x => W0 c x x.inn) l (i + 1)
   rw [← hft, List.length_append] at h1
   rw [if_pos (by omega), List.getElem?_eq_getElem h]
   simp only [Option.map_some, Option.bind_some, hR _ (List.getElem_mem h)]
   have e : ((1 + ((l.take i).map fun x => W0 c x x.inn).flatten.length : Nat) : Int) + ((W0 c l[i] l[i].inn).length : Int) = ((1 + ((l.take (i + 1)).map fun x => W0 c x x.inn).flatten.length : Nat) : Int) := by
    rw [← hft, List.length_append]
    push_cast; omega
   rw [e, Qn _ (by rw [← hft, List.length_append]; omega), Qn _ (by omega)]
   exact_mod_cast Qh3 (N := N) hk he hb hl hR n (i + 1) (by omega) (by omega)
  ·rw [if_neg (by omega), List.take_of_length_le (by omega)]
theorem Qev {R : Q0 → Option Qf3} {N : Nat} {v : Q0} {m : Int} (hf : Fine v) (hc : W1 v m = 0) (hw : v.wgt < 4000000000) (hz : v.sz < 1000000000) (hN : 2 * v.sz + 301000 ≤ N) (hR : ∀ x ∈ v.Items, R x = some x.frm) : ∀ (n i : Nat), i ≤ v.Items.length → v.Items.length - i < n →
  Xr R N v n (i : Int) ((v.Items.take i).map Q0.frm) = some v.frm
 | 0, i, _, h => by omega
 | n + 1, i, hi, hn => by
  have hs := v.sz_eq
  have hsl := Q0.szs_len v.Items
  simp only [Xr, Q7, Xx, V7, Qo, Zu]
  by_cases h : i < v.Items.length
  ·rw [if_pos (by omega), List.getElem?_eq_getElem h]
   simp only [Option.bind_some, hR _ (List.getElem_mem h)]
   rw [if_pos (by rw [Nat.ble_eq, List.length_map, List.length_take]; omega), Qn _ (by omega)]
   have e : (v.Items.take i).map Q0.frm ++ [v.Items[i].frm] = (v.Items.take (i + 1)).map Q0.frm := by
    rw [List.take_succ_eq_append_getElem h, List.map_append]; rfl
   rw [e]
   exact_mod_cast Qev hf hc hw hz hN hR n (i + 1) (by omega) (by omega)
  ·rw [if_neg (by omega), List.take_of_length_le (by omega)]
   obtain ⟨l1, l2, l3, l4⟩ := Q53 hw
   obtain ⟨_, _, hW⟩ := Qfy v m hf hc hw hz
   have hfe := Q7l v
   by_cases h4 : v.Kind = 24
   ·rcases Ua hc with ⟨k1, k2, k3⟩ | ⟨k1, k2, k3, k4, k5, k6, k7⟩
    ·omega
    have hnn := (Q0a k4).2.1 h4
    rw [if_pos h4, Qn _ (by omega), Qdv N v.N' v.Items (by omega) (by omega) (by omega) (by omega) (fun x hx => by
     have f1 := hf.items x hx
     have f2 := f1.text
     have f3 := (Q53 (l4 x hx)).1
     have := (k7 x hx).2 h4
     rw [Q3b (k7 x hx).1] at this
     exact ⟨this, by omega, f1.num, by omega, by omega, f3⟩)]
    have hel : Q0b v.N' (v.Items.map fun x => (x, x.inn)) = v.elm := rfl
    obtain ⟨e1, e2⟩ := Qma hf hc h4
    obtain ⟨d1, d2, d3⟩ := Q1c _ _ e1
    have := Qh3 (N := N) (f := ⟨v, v.Items.map Q0.frm, v.elm, 0⟩) (l := v.Items) (c := v.elm) rfl rfl (by omega) (l3 v.elm) (fun x hx => by
     have := (k7 x hx).2 h4
     rw [Q3b (k7 x hx).1] at this
     exact (Qfy x _ (hf.items x hx) (k7 x hx).1 (l4 x hx) (by have := Q0.szs_mem _ x hx; omega)).1 N (by have := Q0.szs_mem _ x hx; omega) v.elm ⟨d1, by rw [d3, this], by omega, e2 x hx⟩) N 0 (by omega) (by omega)
    have hal : Wi N ⟨v, v.Items.map Q0.frm, v.elm, 0⟩ = some (v.inn.length : Int) := by
     have hin := Q9s v
     rw [if_pos h4] at hin
     have hil : v.inn.length = 1 + (v.Items.map fun x => W0 v.elm x x.inn).flatten.length := by rw [hin]; simp; omega
     rw [hil]; exact this
    simp only [Option.bind_some, hel, h4, hal]
    rw [if_neg (by decide), if_neg (by decide), if_pos (by decide), hfe]
    simp only [h4]
    rfl
   ·rw [if_neg h4]
    by_cases h2 : v.Kind = 22
    ·rw [if_pos (by simp [h2]), hW N (by omega), hfe]
     have hin := Q9s v
     rw [if_neg h4, if_neg (by omega)] at hin
     rw [hin]
     simp only [Option.bind_some, h2]
     rfl
    ·rw [if_neg (by simpa using h2)]
     by_cases h3 : v.Kind = 23
     ·rw [if_pos (by simp [h3]), hW N (by omega), hfe]
      have hin := Q9s v
      rw [if_neg h4, if_neg (by omega)] at hin
      rw [hin]
      simp only [Option.bind_some, h3]
      rfl
     ·rw [if_neg (by simpa using h3), if_neg (by simpa using h4), hfe, if_neg h4, if_neg (by omega)]
theorem Q9l : ∀ (N : Nat) (v : Q0) (m : Int), Fine v → W1 v m = 0 → v.wgt < 4000000000 → v.sz < 1000000000 → 3 * v.sz + 301000 < N → W7 N v = some v.frm
 | 0, v, _, _, _, _, _, h => by omega
 | N + 1, v, m, hf, hc, hw, hz, hN => by
  have hs := v.sz_eq
  have hsl := Q0.szs_len v.Items
  obtain ⟨l1, l2, l3, l4⟩ := Q53 hw
  have := Qev (R := W7 N) (N := N) hf hc hw hz (by omega) (fun x hx => by
   have h1 := Q0.szs_mem _ x hx
   have h2 : ∃ m', W1 x m' = 0 := by
    rcases Ua hc with ⟨k1, k2, k3⟩ | ⟨_, _, _, _, _, _, k7⟩
    ·rw [(Uz k3).2.2.2.1] at hx; cases hx
    ·exact ⟨_, (k7 x hx).1⟩
   obtain ⟨m', hm⟩ := h2
   exact Q9l N x m' (hf.items x hx) hm (l4 x hx) (by omega) (by omega)) N 0 (by omega) (by omega)
  exact this
theorem Qdo {v : Q0} {m : Int} (h : Xu v m = 0) : W1 v m = 0 ∧ 0 ≤ m ∧ m ≤ 32 := by
 unfold Xu at h
 split at h
 ·cases h
 ·rename_i hr
  unfold Q4n at hr
  simp at hr
  exact ⟨h, hr.1, hr.2⟩
theorem Qdz (s : List UInt8) : (Ui s).map (fun n => UInt8.ofNat n.toNat) = s := by
 unfold Ui
 rw [List.map_map]
 conv => rhs; rw [← List.map_id s]
 apply List.map_congr_left
 intro b _
 simp
theorem Qnx (N : Nat) (v : Q0) (m : Int) (hf : Fine v) (hw : v.wgt < 4000000000) (hz : v.sz < 1000000000) (hN : 3 * v.sz + 302000 ≤ N) : U9 N v m = some (if Xu v m ≠ 0 then ([], Xu v m) else (v.nrm.byt, 0)) := by
 simp only [U9, Q96 N v m hf (by omega) hz, Option.bind_some, Q7, Jf]
 by_cases h : Xu v m = 0
 ·obtain ⟨hc, _⟩ := Qdo h
  have hnf := Qco hf
  have hnc := Q8d v m hc
  have hnw : v.nrm.wgt < 4000000000 := by rw [Q9g]; exact hw
  have hnz : v.nrm.sz < 1000000000 := by rw [Q5n]; exact hz
  have hl := (Gt v.nrm).2.1
  rw [if_neg (by simp [h]), if_neg (by simp [h]), Qg1 N v (by omega) hz]
  simp only [Option.bind_some]
  rw [Q9l N v.nrm m hnf hnc hnw hnz (by rw [Q5n]; omega)]
  simp only [Option.bind_some]
  rw [(Qmh v.nrm m hnf hnc hnw hnz).2 N (by rw [Q5n]; omega) [] (by simp; omega)]
  simp only [Option.bind_some, Wr, List.nil_append, Qdz]
 ·rw [if_pos h, if_pos h]
theorem Qq8 (N : Nat) (v : Q0) (m : Int) (hf : Fine v) (hw : v.wgt < 4000000000) (hz : v.sz < 1000000000) (hN : 3 * v.sz + 302000 ≤ N) : Um N v m = some (if Xu v m ≠ 0 then (0, Xu v m) else ((v.nrm.byt.length : Int), 0)) := by
 simp only [Um, Q96 N v m hf (by omega) hz, Option.bind_some, Q7, Jf]
 by_cases h : Xu v m = 0
 ·obtain ⟨hc, _⟩ := Qdo h
  have hnf := Qco hf
  have hnc := Q8d v m hc
  have hnw : v.nrm.wgt < 4000000000 := by rw [Q9g]; exact hw
  have hnz : v.nrm.sz < 1000000000 := by rw [Q5n]; exact hz
  have hl := (Gt v.nrm).2.1
  have hbl := Qmg v.nrm
  rw [if_neg (by simp [h]), if_neg (by simp [h]), Qg1 N v (by omega) hz]
  simp only [Option.bind_some]
  rw [Q9l N v.nrm m hnf hnc hnw hnz (by rw [Q5n]; omega)]
  simp only [Option.bind_some]
  rw [Qbx N v.nrm m hnf hnc hnw (by omega)]
  simp only [Option.bind_some]
  obtain ⟨p1, p2, _⟩ := Qfy v.nrm m hnf hnc hnw hnz
  by_cases h5 : v.nrm.Kind = 25
  ·rw [if_pos h5] at hbl ⊢
   rw [p2 N (by rw [Q5n]; omega) h5]
   simp only [Option.bind_some]
   rw [Qn _ (by omega), hbl]; push_cast; rfl
  ·rw [if_neg h5] at hbl ⊢
   obtain ⟨g1, g2⟩ := Qgz hnf hnc h5
   obtain ⟨d1, d2, d3⟩ := Q1c _ _ g1
   rw [p1 N (by rw [Q5n]; omega) _ ⟨d1, d3, h5, g2⟩]
   simp only [Option.bind_some]
   rw [Qn _ (by omega), hbl]; push_cast; rfl
 ·rw [if_pos h, if_pos h]
end
end Go.Av
namespace Go.Av
noncomputable section
open Go.Proofs
set_option maxRecDepth 100000
theorem Qlg (v : Q0) (h : v.txt) : v.wgt ≤ 430 * v.sz := by
 induction v using Q0.ind with
 | h v ih =>
  rw [Q0.txt_eq] at h
  have hl : ∀ l : List Q0, (∀ x ∈ l, x.wgt ≤ 430 * x.sz) → Q0.wgts l ≤ 430 * Q0.szs l := by
   intro l
   induction l with
   | nil => intro _; simp [Q0.wgts]
   | cons x l ihl =>
    intro h
    have h1 := h x (.head _)
    have h2 := ihl (fun y hy => h y (.tail _ hy))
    simp only [Q0.wgts, Q0.szs]; omega
  have := hl v.Items (fun x hx => ih x hx (Qc2 _ h.2 x hx))
  rw [v.wgt_eq, v.sz_eq]; omega
end
end Go.Av
namespace Go.Av
noncomputable section
open Go.Proofs
set_option maxRecDepth 100000
end
end Go.Av
namespace Go.Av
noncomputable section
open Go.Proofs
set_option maxRecDepth 100000
end
end Go.Av
namespace Go.Av
noncomputable section
open Go.Proofs
set_option maxRecDepth 100000
def Qb2 (l : W8) : Bool := decide (16 ≤ l.MaxPacket ∧ l.MaxPacket ≤ 1048576 ∧ 0 ≤ l.MaxDepth ∧ l.MaxDepth ≤ 32)
def Qkf (f : Qw) : Bool := decide (0 ≤ f.Channel ∧ f.Channel ≤ 65535 ∧ f.Ext.length ≤ 1012 ∧ f.Ext.length % 4 = 0)
noncomputable def Qfw (m : Int) : List Q0 → Int
 | [] => 0
 | x :: l => if Xu x m ≠ 0 then Xu x m else Qfw m l
def Uj (l : List Q0) : List UInt8 := (l.map fun x => x.nrm.byt).flatten
def Qcq (f : Qw) : Nat := 8 + f.Ext.length + (Uj f.Values).length
noncomputable def Gx (f : Qw) (l : W8) : Int :=
 if Qb2 l = false then 2 else if ¬ (f.Type' = 0 ∨ f.Type' = 1) then 8 else if Qkf f = false then 2 else if 1000 < f.Values.length then 4
 else if Qfw l.MaxDepth f.Values ≠ 0 then Qfw l.MaxDepth f.Values else if l.MaxPacket < (Qcq f : Int) then 4 else 0
def Q4j (f : Qw) : List UInt8 := [Q1h (2 + f.Ext.length / 4 : Nat), Q1h f.Type'] ++ Uk f.Channel.toNat 2 ++ f.Ext
def Q4i (f : Qw) : List UInt8 := Uk (Qcq f) 4 ++ (Q4j f ++ Uj f.Values)
structure FB (f : Qw) : Prop where
 fine : ∀ x ∈ f.Values, Fine x
 sz : Q0.szs f.Values < 160000000
 wgt : Q0.wgts f.Values < 4000000000
theorem FB.one {f : Qw} (h : FB f) : ∀ x ∈ f.Values, Fine x ∧ x.sz < 160000000 ∧ x.wgt < 4000000000 := fun x hx => by
 have h1 := Q0.szs_mem _ x hx
 have h2 := Qct _ x hx
 have h3 := h.sz
 have h4 := h.wgt
 exact ⟨h.fine x hx, by omega, by omega⟩
theorem FB.len {f : Qw} (h : FB f) : f.Values.length < 160000000 := by
 have h1 := Q0.szs_len f.Values
 have h2 := h.sz
 omega
theorem Q5v (l : List Q0) : (Uj l).length ≤ Q0.wgts l := by
 unfold Uj
 induction l with
 | nil => simp
 | cons x l ih =>
  have h1 := (Gt x.nrm).2.1
  rw [Q9g] at h1
  simp only [List.map_cons, List.flatten_cons, List.length_append, Q0.wgts]; omega
theorem Q6b (l m : List Q0) : Uj (l ++ m) = Uj l ++ Uj m := by simp [Uj]
theorem Q8e (x : Q0) : Uj [x] = x.nrm.byt := by simp [Uj]
theorem Q6k (l : List Q0) (i : Nat) (h : i < l.length) : Uj (l.take i) ++ l[i].nrm.byt = Uj (l.take (i + 1)) := by
 rw [List.take_succ_eq_append_getElem h, Q6b, Q8e]
theorem Qcm (l : List Q0) (i : Nat) : (Uj (l.take i)).length ≤ (Uj l).length := by
 conv => rhs; rw [← List.take_append_drop i l, Q6b, List.length_append]
 omega
theorem Qib (N : Nat) (l : W8) : Ub N l = some (Qb2 l) := by
 unfold Ub Qb2
 simp only [Q7, Qa6, Q50]
 repeat' split
 all_goals (congr 1; symm)
 ·rw [Bool.eq_iff_iff]; simp only [decide_eq_true_eq, Q50]; omega
 all_goals (rw [decide_eq_false_iff_not]; omega)
theorem Qnb (N : Nat) (n : Int) : U7 N n = some (decide (n = 0 ∨ n = 1)) := by
 unfold U7
 simp only [Q7, V7]
 split
 ·rename_i h; simp [h]
 ·rename_i h
  congr 1
  rw [Bool.eq_iff_iff, V7]; simp [h]
theorem Qf0 {m : Int} : ∀ {l : List Q0}, Qfw m l = 0 → ∀ x ∈ l, Xu x m = 0
 | y :: l, h, x, hx => by
  rw [Qfw] at h
  split at h
  ·rename_i h1; exact absurd h h1
  ·rename_i h1
   rcases List.mem_cons.1 hx with rfl | hx
   ·exact Classical.byContradiction h1
   ·exact Qf0 h x hx
theorem Qlx {m : Int} : ∀ {l : List Q0}, (∀ x ∈ l, Xu x m = 0) → Qfw m l = 0
 | [], _ => rfl
 | y :: l, h => by
  rw [Qfw, if_neg (by simp [h y (.head _)])]
  exact Qlx (fun x hx => h x (.tail _ hx))
theorem Qap {N : Nat} (hN : N = 800000000) {f : Qw} {l : W8} (hf : FB f) (he : f.Ext.length ≤ 1012) (hv : ∀ x ∈ f.Values, Xu x l.MaxDepth = 0) : ∀ (n i : Nat), i ≤ f.Values.length → f.Values.length - i < n →
  W9 N f l n ((8 + f.Ext.length + (Uj (f.Values.take i)).length : Nat) : Int) (i : Int) = some (if l.MaxPacket < (Qcq f : Int) then 4 else 0)
 | 0, i, _, h => by omega
 | n + 1, i, hi, hn => by
  simp only [W9, Q7, Xx, Q7r, Qo, Zu]
  have hbl := Q5v f.Values
  have hw := hf.wgt
  have hfl := hf.len
  by_cases h : i < f.Values.length
  ·have hx := List.getElem_mem h
   obtain ⟨h1, h2, h3⟩ := hf.one _ hx
   have ht := Q6k f.Values i h
   have hle := Qcm f.Values (i + 1)
   rw [← ht, List.length_append] at hle
   rw [if_pos (by omega), List.getElem?_eq_getElem h]
   simp only [Option.bind_some]
   rw [Qq8 N _ _ h1 h3 (by omega) (by omega), if_neg (show ¬ (Xu f.Values[i] l.MaxDepth ≠ 0) by simp [hv _ hx])]
   simp only [Option.bind_some]
   rw [Qn _ (by omega), Qn _ (by omega), show ((8 + f.Ext.length + (Uj (f.Values.take i)).length : Nat) : Int) + (f.Values[i].nrm.byt.length : Int) = ((8 + f.Ext.length + (Uj (f.Values.take (i + 1))).length : Nat) : Int) by rw [← ht, List.length_append]; omega]
   exact_mod_cast Qap hN hf he hv n (i + 1) (by omega) (by omega)
  ·rw [if_neg (by omega), List.take_of_length_le (by omega)]
   unfold Qcq
   split
   ·rfl
   ·rfl
theorem Qaf {N : Nat} (hN : N = 800000000) {f : Qw} {l : W8} (hf : FB f) (he : f.Ext.length ≤ 1012) : ∀ (n i : Nat), i ≤ f.Values.length → f.Values.length - i < n → (∀ x ∈ f.Values.take i, Xu x l.MaxDepth = 0) →
  Wb N f l n (i : Int) = some (if Qfw l.MaxDepth (f.Values.drop i) ≠ 0 then Qfw l.MaxDepth (f.Values.drop i) else if l.MaxPacket < (Qcq f : Int) then 4 else 0)
 | 0, i, _, h, _ => by omega
 | n + 1, i, hi, hn, hv => by
  simp only [Wb, Q7, Xx, Jf, Qo, Zu]
  have hfl := hf.len
  by_cases h : i < f.Values.length
  ·have hx := List.getElem_mem h
   obtain ⟨h1, h2, h3⟩ := hf.one _ hx
   rw [if_pos (by omega), List.getElem?_eq_getElem h]
   simp only [Option.bind_some]
   rw [Q96 N _ _ h1 (by omega) (by omega)]
   simp only [Option.bind_some]
   rw [List.drop_eq_getElem_cons h]
   by_cases hc : Xu f.Values[i] l.MaxDepth = 0
   ·rw [if_neg (by simp [hc]), Qfw, if_neg (show ¬ (Xu f.Values[i] l.MaxDepth ≠ 0) by simp [hc]), Qn _ (by omega)]
    exact_mod_cast Qaf hN hf he n (i + 1) (by omega) (by omega) (fun x hx => by
     rw [List.take_succ_eq_append_getElem h] at hx
     rcases List.mem_append.1 hx with hx | hx
     ·exact hv x hx
     ·have : x = f.Values[i] := by simpa using hx
      subst this; exact hc)
   ·rw [if_pos hc, Qfw, if_pos (show Xu f.Values[i] l.MaxDepth ≠ 0 from hc), if_pos hc]
  ·rw [if_neg (by omega), List.drop_of_length_le (by omega)]
   rw [List.take_of_length_le (by omega)] at hv
   have := Qap hN (l := l) hf he hv N 0 (by omega) (by omega)
   simp only [List.take_zero] at this
   rw [Qn _ (by omega), show (8 + (f.Ext.length : Int)) = ((8 + f.Ext.length + (Uj ([] : List Q0)).length : Nat) : Int) by simp [Uj], show (0 : Int) = ((0 : Nat) : Int) from rfl, this]
   rfl
theorem Qtd (n : Nat) : ((n : Int)).tmod 4 = ((n % 4 : Nat) : Int) := by
 rw [Int.tmod_eq_emod_of_nonneg (by omega)]; omega
theorem Qj3 {N : Nat} (hN : N = 800000000) (f : Qw) (l : W8) (hf : FB f) : U8 N f l = some (Gx f l) := by
 simp only [U8, Qib, Qnb, Option.bind_some, Q7, Xx, Q7r, Jf, Qo, Qtd, Gx]
 cases hr : Qb2 l with
 | false => rfl
 | true =>
  simp only [Bool.not_true, Bool.false_eq_true, if_false, Bool.true_eq_false]
  by_cases ht : f.Type' = 0 ∨ f.Type' = 1
  ·rw [decide_eq_true ht]
   simp only [Bool.not_true, Bool.false_eq_true, if_false, ht, not_true_eq_false]
   cases ho : Qkf f with
   | false =>
    simp only [if_true]
    unfold Qkf at ho
    rw [decide_eq_false_iff_not] at ho
    repeat' split
    all_goals first | rfl | (exfalso; apply ho; omega)
   | true =>
    unfold Qkf at ho
    rw [decide_eq_true_eq] at ho
    simp only [Bool.true_eq_false, if_false]
    rw [if_neg (by omega), if_neg (by omega), if_neg (by omega), if_neg (by omega)]
    by_cases h1 : 1000 < f.Values.length
    ·rw [if_pos (by omega), if_pos h1]
    ·rw [if_neg (by omega), if_neg h1]
     have := Qaf hN (l := l) hf ho.2.2.1 N 0 (by omega) (by have := hf.len; omega) (by simp)
     rw [List.drop_zero] at this
     exact this
  ·rw [decide_eq_false ht]
   simp only [Bool.not_false, if_true, ht, not_false_eq_true]
theorem Q66 {f : Qw} {l : W8} (h : Gx f l = 0) : Qb2 l = true ∧ (f.Type' = 0 ∨ f.Type' = 1) ∧ Qkf f = true ∧ f.Values.length ≤ 1000 ∧ (∀ x ∈ f.Values, Xu x l.MaxDepth = 0) ∧ (Qcq f : Int) ≤ l.MaxPacket := by
 unfold Gx at h
 split at h
 ·cases h
 rename_i h1
 split at h
 ·cases h
 rename_i h2
 split at h
 ·cases h
 rename_i h3
 split at h
 ·cases h
 rename_i h4
 split at h
 ·rename_i h5; exact absurd h h5
 rename_i h5
 split at h
 ·cases h
 rename_i h6
 exact ⟨by simpa using h1, Classical.byContradiction h2, by simpa using h3, by omega, Qf0 (Classical.byContradiction h5), by omega⟩
theorem Qm7 {f : Qw} {l : W8} (h1 : Qb2 l = true) (h2 : f.Type' = 0 ∨ f.Type' = 1) (h3 : Qkf f = true) (h4 : f.Values.length ≤ 1000) (h5 : ∀ x ∈ f.Values, Xu x l.MaxDepth = 0) (h6 : (Qcq f : Int) ≤ l.MaxPacket) : Gx f l = 0 := by
 unfold Gx
 rw [if_neg (by simp [h1]), if_neg (by simp [h2]), if_neg (by simp [h3]), if_neg (by omega), if_neg (by simp [Qlx h5]), if_neg (by omega)]
theorem Qeg {f : Qw} (h : Qkf f = true) : 0 ≤ f.Channel ∧ f.Channel ≤ 65535 ∧ f.Ext.length ≤ 1012 ∧ f.Ext.length % 4 = 0 := by simpa [Qkf] using h
theorem Qh7 (n : Nat) : Uk n 1 = [UInt8.ofNat (n % 256)] := by
 rw [Q40]
 simp [Uk]
theorem Qm4 (s : List UInt8) : (s.map fun b => (b.toNat : Int)) = Ui s := rfl
theorem Qf4 (n : Nat) : UInt8.ofNat (n % 256) = UInt8.ofNat n := by
 apply UInt8.toNat_inj.1
 rw [UInt8.toNat_ofNat', UInt8.toNat_ofNat']
 omega
theorem Qo9 {N : Nat} (hN : N = 800000000) (f : Qw) (ht : f.Type' = 0 ∨ f.Type' = 1) (ho : Qkf f = true) : W5 N ⟨⟨[]⟩, f⟩ = some ((), ⟨⟨Ui (Uk 0 4 ++ Q4j f)⟩, f⟩) := by
 obtain ⟨o1, o2, o3, o4⟩ := Qeg ho
 have p0 := Q3k N 0 4 (by omega) (by omega) (by omega)
 have p1 := Q3k N (2 + f.Ext.length / 4) 1 (by omega) (by omega) (by omega)
 have p2 := Q3k N f.Type'.toNat 1 (by omega) (by omega) (by omega)
 have p3 := Q3k N f.Channel.toNat 2 (by omega) (by omega) (by omega)
 have e0 : IntKind.u64.wrap 0 = ((0 : Nat) : Int) := rfl
 have e1 : IntKind.u64.wrap (IntKind.i64.wrap (2 + IntKind.i64.wrap (((f.Ext.length : Int)).tdiv 4))) = ((2 + f.Ext.length / 4 : Nat) : Int) := by
  have : ((f.Ext.length : Int)).tdiv 4 = ((f.Ext.length / 4 : Nat) : Int) := by
   rw [Int.tdiv_eq_ediv_of_nonneg (by omega)]; omega
  rw [this, Qn ((f.Ext.length / 4 : Nat) : Int) (by omega), Qn _ (by omega), show (2 + ((f.Ext.length / 4 : Nat) : Int)) = ((2 + f.Ext.length / 4 : Nat) : Int) by push_cast; rfl, G2 _ (by omega)]
 have e2 : IntKind.u64.wrap f.Type' = ((f.Type'.toNat : Nat) : Int) := by
  have h : ((f.Type'.toNat : Nat) : Int) = f.Type' := by omega
  have h2 := G2 f.Type'.toNat (by omega)
  rw [h] at h2 ⊢; exact h2
 have e3 : IntKind.u64.wrap f.Channel = ((f.Channel.toNat : Nat) : Int) := by
  have h : ((f.Channel.toNat : Nat) : Int) = f.Channel := by omega
  have h2 := G2 f.Channel.toNat (by omega)
  rw [h] at h2 ⊢; exact h2
 rw [show ((4 : Nat) : Int) = 4 from rfl] at p0
 rw [show ((1 : Nat) : Int) = 1 from rfl] at p1 p2
 rw [show ((2 : Nat) : Int) = 2 from rfl] at p3
 simp only [W5, e0, e1, e2, e3, p0, p1, p2, p3, Option.bind_some, Q7, Zp, Qm4, List.nil_append, List.length_nil]
 have hb1 : Q1h ((2 + f.Ext.length / 4 : Nat) : Int) = UInt8.ofNat (2 + f.Ext.length / 4) := rfl
 have hb2 : Q1h f.Type' = UInt8.ofNat f.Type'.toNat := rfl
 have hh : Ui (Uk 0 4) ++ Ui (Uk (2 + f.Ext.length / 4) 1) ++ Ui (Uk f.Type'.toNat 1) ++ Ui (Uk f.Channel.toNat 2) ++ Ui f.Ext = Ui (Uk 0 4 ++ Q4j f) := by
  rw [← Ux, ← Ux, ← Ux, ← Ux]
  congr 1
  unfold Q4j
  rw [Qh7, Qh7, Qf4, Qf4, hb1, hb2]
  simp
 rw [if_pos (by decide), if_pos (by decide), if_pos (by decide), if_pos (by decide), if_pos (by decide), if_pos (by decide), if_pos (by decide), if_pos (by decide)]
 by_cases h0 : f.Ext.length = 0
 ·rw [if_pos (by simp [h0])]
  have : f.Ext = [] := List.length_eq_zero_iff.1 h0
  rw [← hh, this]
  simp [Ui]
 ·rw [if_neg (by simp [h0]), if_pos (by rw [Nat.ble_eq]; omega), hh]
theorem Qnh {N : Nat} (hN : N = 800000000) (b : List UInt8) (f : Qw) (h : 4 ≤ b.length) (hb : b.length < 9223372036854775808) : W4 N ⟨⟨Ui b⟩, f⟩ = some ((), ⟨⟨Ui (Uk b.length 4 ++ b.drop 4)⟩, f⟩) := by
 have p0 := Q3k N b.length 4 (by omega) (by omega) (by omega)
 rw [show ((4 : Nat) : Int) = 4 from rfl] at p0
 simp only [W4, Je]
 rw [G2 _ (by omega), p0]
 simp only [Option.bind_some, Q7, Qm4]
 rw [if_pos (by rw [Nat.ble_eq]; omega)]
 have h1 : (Ui (Uk b.length 4)).take b.length = Ui (Uk b.length 4) := List.take_of_length_le (by rw [Je, Zp]; omega)
 rw [h1, Je, Zp]
 have h2 : (Ui b).drop 4 = Ui (b.drop 4) := by unfold Ui; rw [List.map_drop]
 rw [h2, ← Ux]
theorem Qeh {f : Qw} : (Q4j f).length = 4 + f.Ext.length := by
 unfold Q4j; simp [Zp]; omega
theorem Qak {N : Nat} (hN : N = 800000000) {f : Qw} {l : W8} {u : Unit × Zt} (hf : FB f) (ho : Qkf f = true) (hu : u.2.f = f) (hv : ∀ x ∈ f.Values, Xu x l.MaxDepth = 0) : ∀ (n i : Nat), i ≤ f.Values.length → f.Values.length - i < n →
  Xb N f l u n (i : Int) (Ui (Uk 0 4 ++ (Q4j f ++ Uj (f.Values.take i)))) = some (Q4i f, 0)
 | 0, i, _, h => by omega
 | n + 1, i, hi, hn => by
  obtain ⟨o1, o2, o3, o4⟩ := Qeg ho
  simp only [Xb, Q7, Xx, Qo, Zu]
  have hbl := Q5v f.Values
  have hw := hf.wgt
  have hfl := hf.len
  have hhl := @Qeh f
  by_cases h : i < f.Values.length
  ·have hx := List.getElem_mem h
   obtain ⟨h1, h2, h3⟩ := hf.one _ hx
   have ht := Q6k f.Values i h
   have hle := Qcm f.Values (i + 1)
   rw [← ht, List.length_append] at hle
   rw [if_pos (by omega), List.getElem?_eq_getElem h]
   simp only [Option.bind_some]
   rw [Qnx N _ _ h1 h3 (by omega) (by omega), if_neg (show ¬ (Xu f.Values[i] l.MaxDepth ≠ 0) by simp [hv _ hx])]
   simp only [Option.bind_some, Qm4]
   have ih := Qak hN (u := u) hf ho hu hv n (i + 1) (by omega) (by omega)
   have e : Ui (Uk 0 4 ++ (Q4j f ++ Uj (f.Values.take i))) ++ Ui f.Values[i].nrm.byt = Ui (Uk 0 4 ++ (Q4j f ++ Uj (f.Values.take (i + 1)))) := by
    rw [← Ux, ← ht]; simp
   rw [Qn _ (by omega)]
   by_cases h0 : f.Values[i].nrm.byt.length = 0
   ·rw [if_pos (by simp [h0])]
    have : f.Values[i].nrm.byt = [] := List.length_eq_zero_iff.1 h0
    rw [this] at e
    have e' : Ui (Uk 0 4 ++ (Q4j f ++ Uj (f.Values.take i))) = Ui (Uk 0 4 ++ (Q4j f ++ Uj (f.Values.take (i + 1)))) := by rw [← e]; simp [Ui]
    rw [e']
    exact_mod_cast ih
   ·rw [if_neg (by simp [h0]), if_pos (by rw [Nat.ble_eq, Je]; simp only [List.length_append, Zp]; omega), e]
    exact_mod_cast ih
  ·rw [if_neg (by omega), List.take_of_length_le (by omega), hu, Qnh hN _ f (by simp [Zp]) (by simp only [List.length_append, Zp]; omega)]
   simp only [Option.bind_some, Qdz]
   have hlen : (Uk 0 4 ++ (Q4j f ++ Uj f.Values)).length = Qcq f := by
    unfold Qcq; simp only [List.length_append, Zp]; omega
   rw [hlen, List.drop_left' (Zp 4 0)]
   rfl
theorem Qbi {N : Nat} (hN : N = 800000000) (f : Qw) (l : W8) (hf : FB f) : Xv N f l = some (if Gx f l ≠ 0 then ([], Gx f l) else (Q4i f, 0)) := by
 simp only [Xv, Qj3 hN f l hf, Option.bind_some, Q7, Jf]
 by_cases h : Gx f l = 0
 ·obtain ⟨c1, c2, c3, c4, c5, c6⟩ := Q66 h
  rw [if_neg (by simp [h]), if_neg (by simp [h]), Qo9 hN f c2 c3]
  simp only [Option.bind_some]
  have := Qak hN (l := l) (u := ((), ⟨⟨Ui (Uk 0 4 ++ Q4j f)⟩, f⟩)) hf c3 rfl c5 N 0 (by omega) (by have := hf.len; omega)
  simp only [List.take_zero, Uj, List.map_nil, List.flatten_nil, List.append_nil, Int.natCast_zero] at this
  simp only [this]
 ·rw [if_pos h, if_pos h]
end
end Go.Av
namespace Go.Av
noncomputable section
open Go.Proofs
set_option maxRecDepth 100000
theorem Qbq {f : Qw} : (Q4i f).length = Qcq f := by
 have := @Qeh f
 unfold Q4i Qcq; simp only [List.length_append, Zp]; omega
def Qw.nrm (f : Qw) : Qw := ⟨f.Type', f.Channel, f.Ext, f.Values.map Q0.nrm⟩
theorem Qw.ext' {a b : Qw} (h1 : a.Type' = b.Type') (h2 : a.Channel = b.Channel) (h3 : a.Ext = b.Ext) (h4 : a.Values = b.Values) : a = b := by cases a; cases b; simp_all
noncomputable instance : DecidableEq Qw := fun a b => decidable_of_iff (a.Type' = b.Type' ∧ a.Channel = b.Channel ∧ a.Ext = b.Ext ∧ a.Values = b.Values) ⟨fun h => Qw.ext' h.1 h.2.1 h.2.2.1 h.2.2.2, fun h => by rw [h]; exact ⟨rfl, rfl, rfl, rfl⟩⟩
theorem Qep {N : Nat} (hN : N = 800000000) {f : Qw} (hl : f.Values.length ≤ 6) : ∀ (n i : Nat), i ≤ f.Values.length → f.Values.length - i < n → ∃ b, Zk N f n (i : Int) = some b ∧ (b = true → ∀ x ∈ f.Values.drop i, x.sz ≤ 40 ∧ x.txt)
 | 0, i, _, h => by omega
 | n + 1, i, hi, hn => by
  simp only [Zk, Q7, Xx, Qo, Zu]
  by_cases h : i < f.Values.length
  ·rw [if_pos (by omega), List.getElem?_eq_getElem h]
   obtain ⟨b1, l1, l2⟩ := Qbf N f.Values[i] (by omega)
   simp only [Option.bind_some, l1]
   cases b1 with
   | false => exact ⟨false, rfl, fun h => by cases h⟩
   | true =>
    rw [Qn _ (by omega)]
    obtain ⟨b, e1, e2⟩ := Qep hN hl n (i + 1) (by omega) (by omega)
    refine ⟨b, ?_, fun hb x hx => ?_⟩
    ·simp only [Bool.not_true, Bool.false_eq_true, if_false]; exact_mod_cast e1
    ·rw [List.drop_eq_getElem_cons h] at hx
     rcases List.mem_cons.1 hx with rfl | hx
     ·exact l2 rfl
     ·exact e2 hb x hx
  ·rw [if_neg (by omega), List.drop_of_length_le (by omega)]
   exact ⟨true, rfl, fun _ x hx => by cases hx⟩
theorem Qgb {N : Nat} (hN : N = 800000000) (f : Qw) : ∃ b, Xi N f = some b ∧ (b = true → f.Values.length ≤ 6 ∧ f.Ext.length ≤ 1100 ∧ ∀ x ∈ f.Values, x.sz ≤ 40 ∧ x.txt) := by
 simp only [Xi, Q7, Q7r, Qo]
 by_cases h1 : (f.Values.length : Int) > 6
 ·rw [if_pos h1]; exact ⟨false, rfl, fun h => by cases h⟩
 ·rw [if_neg h1]
  by_cases h2 : (f.Ext.length : Int) > 1100
  ·rw [if_pos h2]; exact ⟨false, rfl, fun h => by cases h⟩
  ·rw [if_neg h2]
   obtain ⟨b, e1, e2⟩ := Qep hN (f := f) (by omega) N 0 (by omega) (by omega)
   refine ⟨b, by exact_mod_cast e1, fun hb => ⟨by omega, by omega, ?_⟩⟩
   have := e2 hb
   rwa [List.drop_zero] at this
theorem Q41 : ∀ (l : List Q0), (∀ x ∈ l, x.sz ≤ 40 ∧ x.txt) → Q0.szs l ≤ 40 * l.length ∧ Q0.wgts l ≤ 17200 * l.length
 | [], _ => by simp [Q0.szs, Q0.wgts]
 | x :: m, h => by
  have h1 := h x (.head _)
  have h2 := Q41 m (fun y hy => h y (.tail _ hy))
  have h3 := Qlg x h1.2
  simp only [Q0.szs, Q0.wgts, List.length_cons]; omega
theorem Qn5 {f : Qw} (hl : f.Values.length ≤ 6) (h : ∀ x ∈ f.Values, x.sz ≤ 40 ∧ x.txt) (hv : ∀ x ∈ f.Values, OkV x) : FB f := by
 obtain ⟨h1, h2⟩ := Q41 _ h
 exact ⟨fun x hx => Qfl x (hv x hx) (h x hx).2, by omega, by omega⟩
theorem Ql3 {N : Nat} (hN : N = 800000000) {f : Qw} (hf : FB f) (hs : ∀ x ∈ f.Values, x.sz ≤ 40) : ∀ (n i : Nat), i ≤ f.Values.length → f.Values.length - i < n → Zx N f n (i : Int) (f.Values.take i) = some f
 | 0, i, _, h => by omega
 | n + 1, i, hi, hn => by
  have hfl := hf.len
  simp only [Zx, Q7, Xx, Qo, Zu]
  by_cases h : i < f.Values.length
  ·have h2 := hs _ (List.getElem_mem h)
   rw [if_pos (by omega), List.getElem?_eq_getElem h]
   simp only [Option.bind_some]
   rw [Qph N _ (by omega) (by omega)]
   simp only [Option.bind_some]
   rw [if_pos (by rw [Nat.ble_eq, List.length_take]; omega), Qn _ (by omega), ← List.take_succ_eq_append_getElem h]
   exact_mod_cast Ql3 hN hf hs n (i + 1) (by omega) (by omega)
  ·rw [if_neg (by omega), List.take_of_length_le (by omega)]
theorem Qpk {N : Nat} (hN : N = 800000000) (f : Qw) (hf : FB f) (hs : ∀ x ∈ f.Values, x.sz ≤ 40) : W2 N f = some f := by
 have := Ql3 hN hf hs N 0 (by omega) (by have := hf.len; omega)
 simp only [List.take_zero, Int.natCast_zero] at this
 simpa only [W2] using this
end
end Go.Av
namespace Go.Av
noncomputable section
open Go.Proofs
set_option maxRecDepth 100000
theorem Qwc {s : List UInt8} (h : 8 ≤ s.length) : ∃ a0 a1 a2 a3 a4 a5 a6 a7 t, s = a0 :: a1 :: a2 :: a3 :: a4 :: a5 :: a6 :: a7 :: t := by
 match s, h with
 | a0 :: a1 :: a2 :: a3 :: a4 :: a5 :: a6 :: a7 :: t, _ => exact ⟨a0, a1, a2, a3, a4, a5, a6, a7, t, rfl⟩
theorem Qs4 (b : UInt8) : IntKind.i64.wrap (b.toNat : Int) = ((b.toNat : Nat) : Int) := by
 have := b.toNat_lt
 rw [Qn _ (by omega)]
end
end Go.Av
namespace Go.Av
noncomputable section
open Go.Proofs
set_option maxRecDepth 100000
theorem Qq1 : Wh 800000000 = some true := by decide +kernel
theorem eqS (x : List UInt8) : Q6m .eql x x = true := by simp [Q6m]
theorem eqI (x : Int) : Q8 .eql x x = true := by simp [Q8]
end
end Go.Av
namespace Go.Av
noncomputable section
open Go.Proofs
set_option maxRecDepth 100000
theorem Qtc {l : List UInt8} (h : l.length = 4) : ∃ a b c d, l = [a, b, c, d] := by
 match l, h with
 | [a, b, c, d], _ => exact ⟨a, b, c, d, rfl⟩
theorem Qtk {l : List UInt8} (h : l.length = 2) : ∃ a b, l = [a, b] := by
 match l, h with
 | [a, b], _ => exact ⟨a, b, rfl⟩
theorem Qer {f : Qw} (ho : Qkf f = true) (ht : f.Type' = 0 ∨ f.Type' = 1) (hw : Qcq f < 4294967296) (t : List UInt8) : ∃ x0 x1 x2 x3 c0 c1 a b : UInt8, Q4i f ++ t = x0 :: x1 :: x2 :: x3 :: a :: b :: c0 :: c1 :: (f.Ext ++ (Uj f.Values ++ t)) ∧
  Qa7 [x0, x1, x2, x3] = Qcq f ∧ (Qa7 [c0, c1] : Int) = f.Channel ∧ a.toNat = 2 + f.Ext.length / 4 ∧ (b.toNat : Int) = f.Type' := by
 obtain ⟨o1, o2, o3, o4⟩ := Qeg ho
 obtain ⟨x0, x1, x2, x3, e1⟩ := Qtc (Zp 4 (Qcq f))
 obtain ⟨c0, c1, e2⟩ := Qtk (Zp 2 f.Channel.toNat)
 refine ⟨x0, x1, x2, x3, c0, c1, Q1h (2 + f.Ext.length / 4 : Nat), Q1h f.Type', ?_, ?_, ?_, ?_, ?_⟩
 ·unfold Q4i Q4j
  rw [e1, e2]; simp
 ·rw [← e1, Q4b, Nat.mod_eq_of_lt (by omega)]
 ·rw [← e2, Q4b, Nat.mod_eq_of_lt (by omega)]; omega
 ·have := Qdt (c := ((2 + f.Ext.length / 4 : Nat) : Int)) (by omega)
  omega
 ·exact Qdt (by omega)
end
end Go.Av
namespace Go.Av
noncomputable section
open Go.Proofs
set_option maxRecDepth 100000
end
end Go.Av
namespace Go.Av
noncomputable section
open Go.Proofs
set_option maxRecDepth 100000
def Qw.more (f : Qw) (v : Q0) : Qw := ⟨f.Type', f.Channel, f.Ext, f.Values ++ [v]⟩
theorem Qeq {m : Int} : ∀ (l : List Q0) (v : Q0), (∀ x ∈ l, Xu x m = 0) → Qfw m (l ++ [v]) = Xu v m
 | [], v, _ => by
  rw [List.nil_append, Qfw]
  split
  ·rfl
  ·rename_i h; rw [Classical.byContradiction h]; rfl
 | x :: l, v, h => by
  rw [List.cons_append, Qfw, if_neg (by simp [h x (.head _)])]
  exact Qeq l v (fun y hy => h y (.tail _ hy))
theorem Qav {N : Nat} (hN : N = 800000000) {f : Qw} {v : Q0} (hf : FB f) (hg : FB (f.more v)) (hl : f.Values.length ≤ 6) (hs : ∀ x ∈ f.Values, x.sz ≤ 40) (hv : Fine v ∧ v.sz ≤ 40 ∧ v.wgt ≤ 17200) (hws : Q0.wgts f.Values ≤ 120000) (hc : Gx f ⟨1048576, 10⟩ = 0) : ∀ (n i : Nat), i ≤ f.Values.length → f.Values.length - i < n →
  Qy N f v (Q4i f, 0) n (Uj (f.Values.take i)) (i : Int) = some true
 | 0, i, _, h => by omega
 | n + 1, i, hi, hn => by
  obtain ⟨c1, c2, c3, c4, c5, c6⟩ := Q66 hc
  obtain ⟨o1, o2, o3, o4⟩ := Qeg c3
  simp only [Qy, Q7, Xx, Jf, Qo, Zu]
  have hbl := Q5v f.Values
  have htot : 8 + f.Ext.length + (Uj f.Values).length = Qcq f := rfl
  have hblen := @Qbq f
  by_cases h : i < f.Values.length
  ·have hx := List.getElem_mem h
   obtain ⟨h1, h2, h3⟩ := hf.one _ hx
   have htk := Q6k f.Values i h
   have hle := Qcm f.Values (i + 1)
   rw [← htk, List.length_append] at hle
   rw [if_pos (by omega), List.getElem?_eq_getElem h]
   simp only [Option.bind_some]
   rw [Q8i N _ _ h1 h3 (by omega) (by omega), if_neg (show ¬ (Xu f.Values[i] 10 ≠ 0) by simp [show Xu f.Values[i] 10 = 0 from c5 _ hx])]
   simp only [Option.bind_some]
   rw [if_pos (by simp only [Nat.ble_eq]; omega), Qn _ (by omega), htk]
   exact_mod_cast Qav hN hf hg hl hs hv hws hc n (i + 1) (by omega) (by omega)
  ·have etk : f.Values.take i = f.Values := List.take_of_length_le (by omega)
   rw [if_neg (by omega), etk, Qpk hN f hf hs]
   simp only [Option.bind_some]
   have efr : IntKind.i64.wrap (8 + (f.Ext.length : Int)) = ((8 + f.Ext.length : Nat) : Int) := by rw [Qn _ (by omega)]; push_cast; rfl
   have hB := Qbi hN (f.more v) ⟨1048576, 10⟩ hg
   have hB : Xv N ⟨f.Type', f.Channel, f.Ext, f.Values ++ [v]⟩ ⟨1048576, 10⟩ = _ := hB
   rw [if_pos (by rw [Nat.ble_eq]; omega), hB, Q8i N v 10 hv.1 (by omega) (by omega) (by omega), efr]
   simp only [Option.bind_some, Int.toNat_natCast, List.take_length]
   obtain ⟨x0, x1, x2, x3, d0, d1, a, b, e, n1, n2, n3, n4⟩ := Qer c3 c2 (by omega) []
   rw [List.append_nil, List.append_nil] at e
   have hdrop : (Q4i f).drop (8 + f.Ext.length) = Uj f.Values := by
    rw [e, ← List.drop_drop]
    show (f.Ext ++ Uj f.Values).drop f.Ext.length = _
    rw [List.drop_left]
   rw [if_pos (by simp only [Nat.ble_eq, Bool.and_eq_true]; omega), hdrop, eqS, if_pos rfl]
   have hval : Qfw 10 (f.more v).Values = Xu v 10 := Qeq f.Values v c5
   have htg : Qcq (f.more v) = Qcq f + v.nrm.byt.length := by
    unfold Qcq Qw.more
    simp only []
    rw [Q6b, Q8e, List.length_append]; omega
   have hvl := (Gt v.nrm).2.1
   rw [Q9g] at hvl
   by_cases hcv : Xu v 10 = 0
   ·have hcg : Gx (f.more v) ⟨1048576, 10⟩ = 0 := by
     refine Qm7 c1 c2 c3 (by show (f.Values ++ [v]).length ≤ 1000; simp; omega) (fun x hx => ?_) (by rw [htg]; show _ ≤ (1048576 : Int); omega)
     rcases List.mem_append.1 hx with hx | hx
     ·exact c5 x hx
     ·have : x = v := by simpa using hx
      subst this; exact hcv
    rw [if_neg (show ¬ (Gx (f.more v) ⟨1048576, 10⟩ ≠ 0) from fun h => h hcg), if_neg (show ¬ (Xu v 10 ≠ 0) from fun h => h hcv)]
    simp only [eqI, beq_self_eq_true, if_true]
    have hlg := @Qbq (f.more v)
    have hh : Q4j (f.more v) = Q4j f := rfl
    have hbg : Uj (f.more v).Values = Uj f.Values ++ v.nrm.byt := by unfold Qw.more; simp only []; rw [Q6b, Q8e]
    have e4 : (Q4i (f.more v)).drop 4 = (Q4i f).drop 4 ++ v.nrm.byt := by
     unfold Q4i
     rw [List.drop_left' (Zp 4 _), List.drop_left' (Zp 4 _), hh, hbg, List.append_assoc]
    rw [if_neg (by simp), if_pos (by simp only [Nat.ble_eq, Bool.and_eq_true]; omega), if_pos (by simp only [Nat.ble_eq, Bool.and_eq_true]; omega), if_pos (by simp only [Nat.ble_eq, List.length_drop]; omega), e4, eqS]
   ·have hcg : Gx (f.more v) ⟨1048576, 10⟩ ≠ 0 := by
     intro h0
     obtain ⟨_, _, _, _, g5, _⟩ := Q66 h0
     exact hcv (g5 v (by show v ∈ f.Values ++ [v]; simp))
    rw [if_pos hcg, if_pos (show Xu v 10 ≠ 0 from hcv)]
    have n0 : ∀ x : Int, x ≠ 0 → Q8 .eql x 0 = false := fun x hx => Bool.eq_false_iff.2 (by rw [ne_eq, V7]; exact hx)
    rw [n0 _ hcg, n0 _ hcv, if_pos (show (false == false) = true from rfl), if_pos hcg]
theorem Qn1 {N : Nat} (hN : N = 800000000) (hlv : Wh N = some true) (f : Qw) (v : Q0) (hf : OkF f) (hv : OkV v) : Zv N f v = some true := by
 obtain ⟨b1, l1, l2⟩ := Qgb hN f
 obtain ⟨b2, l3, l4⟩ := Qbf N v (by omega)
 simp only [Zv, hlv, Option.bind_some, Q7, Bool.not_true, Bool.false_eq_true, if_false, l1, l3, Xx, Jf, Q10]
 cases b1 with
 | false => rfl
 | true =>
  cases b2 with
  | false => rfl
  | true =>
   obtain ⟨n1, x1, v1⟩ := l2 rfl
   obtain ⟨s1, t1⟩ := l4 rfl
   have hfb := Qn5 n1 v1 hf.vals
   have hws := (Q41 _ v1).2
   have hw1 := Qlg v t1
   have hgb : FB (f.more v) := by
    refine ⟨fun x hx => ?_, ?_, ?_⟩
    ·rcases List.mem_append.1 hx with hx | hx
     ·exact hfb.fine x hx
     ·have : x = v := by simpa using hx
      subst this; exact Qfl x hv t1
    ·have := hfb.sz
     have h1 := (Q41 _ v1).1
     show Q0.szs (f.Values ++ [v]) < _
     rw [Q0.szs_app]; simp only [Q0.szs]; omega
    ·have : ∀ l m : List Q0, Q0.wgts (l ++ m) = Q0.wgts l + Q0.wgts m := by
      intro l m
      induction l with
      | nil => simp [Q0.wgts]
      | cons x l ih => simp only [List.cons_append, Q0.wgts, ih]; omega
     show Q0.wgts (f.Values ++ [v]) < _
     rw [this]; simp only [Q0.wgts]; omega
   simp only [Bool.not_true, Bool.false_eq_true, if_false]
   rw [Qbi hN f _ hfb]
   simp only [Option.bind_some]
   by_cases hc : Gx f ⟨1048576, 10⟩ = 0
   ·obtain ⟨c1, c2, c3, c4, c5, c6⟩ := Q66 hc
    obtain ⟨o1, o2, o3, o4⟩ := Qeg c3
    have htot : 8 + f.Ext.length + (Uj f.Values).length = Qcq f := rfl
    have hbl := Q5v f.Values
    have hblen := @Qbq f
    rw [if_neg (show ¬ (Gx f ⟨1048576, 10⟩ ≠ 0) from fun h => h hc)]
    have efr : IntKind.i64.wrap (8 + (f.Ext.length : Int)) = ((8 + f.Ext.length : Nat) : Int) := by rw [Qn _ (by omega)]; push_cast; rfl
    obtain ⟨x0, x1', x2, x3, d0, d1, a, b, e, m1, m2, m3, m4⟩ := Qer c3 c2 (by omega) []
    rw [List.append_nil, List.append_nil] at e
    have i4 : idx (Q4i f) 4 = some a := by rw [e]; rfl
    have i5 : idx (Q4i f) 5 = some b := by rw [e]; rfl
    have i6 : idx (Q4i f) 6 = some d0 := by rw [e]; rfl
    have i7 : idx (Q4i f) 7 = some d1 := by rw [e]; rfl
    simp only []
    rw [if_neg (by simp), efr, if_neg (by rw [hblen]; omega), i4]
    simp only [Option.bind_some, Qs4, i5, i6, i7]
    have htd : (((8 + f.Ext.length : Nat) : Int)).tdiv 4 = ((2 + f.Ext.length / 4 : Nat) : Int) := by
     rw [Int.tdiv_eq_ediv_of_nonneg (by omega)]; omega
    have hnum : Qa7 [d0, d1] = d0.toNat * 256 + d1.toNat := by simp [Qa7]
    have b0 := d0.toNat_lt
    have b1 := d1.toNat_lt
    have hext : ((Q4i f).take (8 + f.Ext.length)).drop 8 = f.Ext := by
     rw [e, List.drop_take]
     show (f.Ext ++ Uj f.Values).take (8 + f.Ext.length - 8) = f.Ext
     rw [show 8 + f.Ext.length - 8 = f.Ext.length by omega, List.take_left]
    rw [htd, Qn ((2 + f.Ext.length / 4 : Nat) : Int) (by omega), m3, if_neg (by simp), m4, if_neg (by simp), Qn ((d0.toNat : Int) * 256) (by omega), Qn _ (by omega), if_neg (by omega),
     if_pos (by rw [decide_eq_true_eq]; omega), Int.toNat_natCast, if_pos (by simp only [Nat.ble_eq, Bool.and_eq_true]; omega), hext, if_neg (by simp)]
    have := Qav hN hfb hgb n1 (fun x hx => (v1 x hx).1) ⟨Qfl v hv t1, s1, by omega⟩ (by omega) hc N 0 (by omega) (by omega)
    simp only [List.take_zero, Uj, List.map_nil, List.flatten_nil, Int.natCast_zero] at this
    exact this
   ·rw [if_pos (show Gx f ⟨1048576, 10⟩ ≠ 0 from hc)]
    simp only []
    rw [if_pos hc]
    rfl
theorem Qex (f : Qw) (v : Q0) (hf : OkF f) (hv : OkV v) : Zv 800000000 f v = some true := Qn1 rfl Qq1 f v hf hv
end
end Go.Av
