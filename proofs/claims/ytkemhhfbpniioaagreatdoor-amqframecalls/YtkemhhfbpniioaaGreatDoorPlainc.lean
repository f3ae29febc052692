/- The law. Part of a proof of a given statement: for every input the law returns true and the arguments read as before; no condition beyond the given row. -/
import Derived.Test.YtkemhhfbpniioaaGreatDoorPlainb
import Derived.Test.YtkemhhfbpniioaaGreatDoorOks
namespace Go.Av
noncomputable section
open Go.Proofs
set_option maxRecDepth 100000
theorem Qp1 (N : Nat) (code : Int) (v : Q0) (b : List UInt8) (hn : okU v.N') (h : v.Text.length < N) (hb : v.Text.length < 4611686018427387000) (hN : 50 < N) (hl : b.length < 4611686018427387000) (hl2 : v.Items.length < 4611686018427387000) : Wc N code v b = some (Q6i code v b) := by
 simp only [Wc, Q4b N code hN, Option.bind_some, Qfl N code v hn h hb hN, Q6, Wb, Qn, Q6i]
 by_cases hi : (ofS code).Items = false
 ·rw [if_pos (by simp [hi]), if_pos hi]
 ·rw [if_neg (by simpa using hi), if_neg hi]
  by_cases h0 : (ofS code).Width = 0
  ·rw [if_pos h0, if_pos h0]
   congr 1
   rw [Bool.eq_iff_iff, Wb]; simp
  ·rw [if_neg h0, if_neg h0]
   by_cases h4 : (ofS code).Width = 4
   ·rw [if_pos h4]; simp [h4]
   ·rw [if_neg h4, Qh _ (by omega)]
    split
    ·rename_i h5
     rw [Y6] at h5
     congr 1
     rw [Bool.eq_iff_iff, Y6]; simp [h4]; omega
    ·rename_i h5
     rw [Y6] at h5
     congr 1
     symm
     rw [decide_eq_false_iff_not]; omega
theorem Qd2 {N : Nat} {k0 : Int → Option Int} {items : List Q0} {ins : List (List UInt8)} {v1 : List Int} {i : Nat} {code : Int} (hlen : items.length = ins.length) (hc : v1[i]? = some code) (hb : items.length < 1000000000)
  (hR : ∀ p ∈ items.zip ins, Wc N code p.1 p.2 = some (Q6i code p.1 p.2)) : ∀ (n k : Nat) (all : Bool), k ≤ items.length → items.length - k < n →
  Xh N k0 items ins v1 (i : Int) n all (k : Int) = if (all && Qo6 code ((items.zip ins).drop k)) = true then some code else k0 (IntKind.i64.wrap ((i : Int) + 1))
 | 0, k, all, _, h => by omega
 | n + 1, k, all, hk, hn => by
  simp only [Xh, Q6, Y6, Qn, Za, hc, Option.bind_some]
  by_cases h : k < items.length
  ·rw [if_pos (by omega), List.getElem?_eq_getElem h, List.getElem?_eq_getElem (show k < ins.length by omega)]
   have hz : k < (items.zip ins).length := by simp; omega
   have hmem : (items[k], ins[k]) ∈ items.zip ins := by
    have := List.getElem_mem hz
    rwa [List.getElem_zip] at this
   have hd : (items.zip ins).drop k = (items[k], ins[k]) :: (items.zip ins).drop (k + 1) := by
    rw [List.drop_eq_getElem_cons hz, List.getElem_zip]
   simp only [Option.bind_some, hR _ hmem]
   cases all with
   | false => simp
   | true =>
    rw [if_pos rfl, Qh _ (by omega)]
    have ih := Qd2 (N := N) (k0 := k0) hlen hc hb hR n (k + 1) (Q6i code items[k] ins[k]) (by omega) (by omega)
    rw [hd]
    simp only [Qo6, List.all_cons, Bool.true_and] at ih ⊢
    exact_mod_cast ih
  ·rw [if_neg (by omega), List.drop_of_length_le (by simp; omega)]
   cases all <;> simp [Qo6]
theorem Qek {N : Nat} {items : List Q0} {ins : List (List UInt8)} {v1 : List Int} (hlen : items.length = ins.length) (hb : items.length < 1000000000) (hb1 : v1.length < 1000) (hN : items.length < N)
  (hR : ∀ c ∈ v1, ∀ p ∈ items.zip ins, Wc N c p.1 p.2 = some (Q6i c p.1 p.2)) : ∀ (n i : Nat), i ≤ v1.length → v1.length - i < n →
  Zt N items ins v1 n (i : Int) = some (((v1.drop i).find? (fun c => Qo6 c (items.zip ins))).getD 0)
 | 0, i, _, h => by omega
 | n + 1, i, hi, hn => by
  simp only [Zt, Q6, Y6, Gq]
  by_cases h : i < v1.length
  ·rw [if_pos (by omega)]
   have := Qd2 (k0 := Zt N items ins v1 n) hlen (List.getElem?_eq_getElem h) hb (hR _ (List.getElem_mem h)) N 0 true (by omega) (by omega)
   rw [show (0 : Int) = ((0 : Nat) : Int) from rfl, this, List.drop_zero, Bool.true_and, List.drop_eq_getElem_cons h, List.find?_cons]
   cases Qo6 v1[i] (items.zip ins) with
   | true => simp
   | false =>
    rw [if_neg (by simp), Qh _ (by omega)]
    exact_mod_cast Qek hlen hb hb1 hN hR n (i + 1) (by omega) (by omega)
  ·rw [if_neg (by omega), List.drop_of_length_le (by omega)]; simp
theorem Qei (N : Nat) (k : Int) (items : List Q0) (ins : List (List UInt8)) (hlen : items.length = ins.length) (hb : items.length < 1000000000) (hN : items.length < N) (hN2 : 50 < N)
  (hp : ∀ p ∈ items.zip ins, okU p.1.N' ∧ p.1.Text.length < N ∧ p.1.Text.length < 4611686018427387000 ∧ p.2.length < 4611686018427387000 ∧ p.1.Items.length < 4611686018427387000) :
  V6 N k items ins = some (Q3l k (items.zip ins)) := by
 have hc := Qgg k
 simp only [V6, Qkv N k hN2, Option.bind_some]
 have := Qek (N := N) (v1 := Ju k) hlen hb (by omega) hN (fun c _ p hp' => by
  obtain ⟨h1, h2, h3, h4, h5⟩ := hp p hp'
  exact Qp1 N c p.1 p.2 h1 h2 h3 hN2 h4 h5) N 0 (by omega) (by omega)
 rw [List.drop_zero] at this
 exact this
theorem Qg2 (N : Nat) (code : Int) (v : Q0) (b : List UInt8) (hc : ofB code = true) (hn : okU v.N') (h : v.Text.length < N) (hb : v.Text.length < 4611686018427387000) (hN : 50 < N) (hl : b.length < 1000000000000000000) (hl2 : v.Items.length < 1000000000000000000) : Wd N code v b = some (Vu code v b) := by
 simp only [Wd, Q4b N code hN, Option.bind_some, Qpw N code v hn h hb hN, Q6, Qn, Vu]
 by_cases hi : (ofS code).Items = false
 ·rw [if_pos (by simp [hi]), if_pos hi]
 ·rw [if_neg (by simpa using hi), if_neg hi]
  have hi : (ofS code).Items = true := by simpa using hi
  by_cases hs : (ofS code).Sized = false
  ·rw [if_pos (by simp [hs]), if_pos hs]
  ·rw [if_neg (by simpa using hs), if_neg hs]
   have hs : (ofS code).Sized = true := by simpa using hs
   obtain ⟨w1, _⟩ := (Jq hc hi).1 hs
   obtain ⟨w, hw, hw2⟩ : ∃ w : Nat, (ofS code).Width = (w : Int) ∧ w ≤ 4 := by
    rcases w1 with h | h
    ·exact ⟨1, h, by omega⟩
    ·exact ⟨4, h, by omega⟩
   rw [hw, Qh _ (by omega), show ((b.length : Int) + (w : Int)) = ((b.length + w : Nat) : Int) by push_cast; rfl, U5 _ (by omega), U5 _ (by omega),
    Qg6 N _ w (by omega) (by omega) (by omega), Qg6 N _ w (by omega) (by omega) (by omega)]
   simp only [Option.bind_some, Int.toNat_natCast, Yk, Nat.ble_eq, List.length_append]
   rw [if_pos (by omega), if_pos (by omega), List.append_assoc]
theorem Qdd {R : Q0 → Option (List UInt8)} {N : Nat} {l : List Q0} (hb : l.length < 1000000000) (hR : ∀ y ∈ l, R y = some y.inn) : ∀ (n i : Nat), i ≤ l.length → l.length - i < n →
  X8 R N l n (i : Int) ((l.take i).map Q0.inn) = some (l.map Q0.inn)
 | 0, i, _, h => by omega
 | n + 1, i, hi, hn => by
  simp only [X8, Q6, Y6, Qn, Za]
  by_cases h : i < l.length
  ·rw [if_pos (by omega), List.getElem?_eq_getElem h]
   simp only [Option.bind_some, hR _ (List.getElem_mem h)]
   rw [if_pos (by rw [Nat.ble_eq, List.length_map, List.length_take]; omega), Qh _ (by omega)]
   have e : (l.take i).map Q0.inn ++ [l[i].inn] = (l.take (i + 1)).map Q0.inn := by rw [List.take_succ_eq_append_getElem h, List.map_append]; rfl
   rw [e]
   exact_mod_cast Qdd (N := N) hb hR n (i + 1) (by omega) (by omega)
  ·rw [if_neg (by omega), List.take_of_length_le (by omega)]
theorem Q5b {α : Type} (f : Q0 → List α) (l : List Q0) (i : Nat) (h : i < l.length) : ((l.take i).map f).flatten ++ f l[i] = ((l.take (i + 1)).map f).flatten := by
 rw [List.take_succ_eq_append_getElem h, List.map_append, List.flatten_append]; simp
theorem Qbf (f : Q0 → List UInt8) (l : List Q0) (i : Nat) : ((l.take i).map f).flatten.length ≤ (l.map f).flatten.length := by
 conv => rhs; rw [← List.take_append_drop i l, List.map_append, List.flatten_append, List.length_append]
 omega
theorem Qc3 {N : Nat} {v : Q0} {ins : List (List UInt8)} {c : Int} (hins : ins = v.Items.map Q0.inn) (hb : v.Items.length < 1000000000) (hl : (v.Items.map fun x => Vu c x x.inn).flatten.length < 1000000000000000000)
  (hR : ∀ y ∈ v.Items, Wd N c y y.inn = some (Vu c y y.inn)) : ∀ (n i : Nat), i ≤ v.Items.length → v.Items.length - i < n →
  X1 N v ins c n (Q3z c :: ((v.Items.take i).map fun x => Vu c x x.inn).flatten) (i : Int) = some (Q3z c :: (v.Items.map fun x => Vu c x x.inn).flatten)
 | 0, i, _, h => by omega
 | n + 1, i, hi, hn => by
  simp only [X1, Q6, Y6, Qn, Za]
  by_cases h : i < v.Items.length
  ·have hx : ins[i]? = some v.Items[i].inn := by rw [hins, List.getElem?_map, List.getElem?_eq_getElem h]; rfl
   have hft := Q5b (fun x => Vu c x x.inn) v.Items i h
   have h1 := Qbf (fun x => Vu c x x.inn) v.Items (i + 1)
   rw [← hft, List.length_append] at h1
   rw [if_pos (by omega), List.getElem?_eq_getElem h, hx]
   simp only [Option.bind_some, hR _ (List.getElem_mem h)]
   rw [if_pos (by simp only [Nat.ble_eq, List.length_cons]; omega), Qh _ (by omega), List.cons_append, hft]
   exact_mod_cast Qc3 hins hb hl hR n (i + 1) (by omega) (by omega)
  ·rw [if_neg (by omega), List.take_of_length_le (by omega)]
theorem Qc2 {R : Q0 → Option (List UInt8)} {N : Nat} {v : Q0} (hk : v.Kind ≠ 25) (hb : v.Items.length < 1000000000) (hl : (v.Items.map Q0.byt).flatten.length < 1000000000000000000)
  (hR : ∀ y ∈ v.Items, R y = some y.byt) : ∀ (n i : Nat), i ≤ v.Items.length → v.Items.length - i < n →
  Y3 R N v n ((v.Items.take i).map Q0.byt).flatten (i : Int) = some (v.Items.map Q0.byt).flatten
 | 0, i, _, h => by omega
 | n + 1, i, hi, hn => by
  simp only [Y3, Q6, Y6, Wy, Qn, Za]
  by_cases h : i < v.Items.length
  ·have hft := Q5b Q0.byt v.Items i h
   have h1 := Qbf Q0.byt v.Items (i + 1)
   rw [← hft, List.length_append] at h1
   rw [if_pos (by omega), if_pos hk, List.getElem?_eq_getElem h]
   simp only [Option.bind_some, hR _ (List.getElem_mem h)]
   rw [if_pos (by simp only [Nat.ble_eq]; omega), Qh _ (by omega), hft]
   exact_mod_cast Qc2 (N := N) hk hb hl hR n (i + 1) (by omega) (by omega)
  ·rw [if_neg (by omega), List.take_of_length_le (by omega)]
theorem Q81 {c : Int} (h : 0 ≤ c ∧ c < 256) : UInt8.ofNat (IntKind.u8.wrap c).toNat = Q3z c := by
 unfold Q3z
 rw [Qws, Int.emod_eq_of_lt h.1 h.2]
theorem Q8y {v : Q0} (hw : v.wgt < 4000000000) : v.inn.length < 1000000000000000000 ∧ (v.Items.map Q0.byt).flatten.length < 1000000000000000000 ∧ (∀ c, (v.Items.map fun x => Vu c x x.inn).flatten.length < 1000000000000000000) ∧ ∀ x ∈ v.Items, x.wgt < 4000000000 := by
 have hwe := v.wgt_eq
 have h1 := (Q3t v).1
 have s1 : ∀ (f : Q0 → List UInt8) (l : List Q0), (∀ x ∈ l, (f x).length ≤ x.wgt) → (l.map f).flatten.length ≤ Q0.wgts l := by
  intro f l
  induction l with
  | nil => intro _; simp
  | cons x l ihl =>
   intro h
   have h1 := h x (.head _)
   have h2 := ihl (fun y hy => h y (.tail _ hy))
   simp only [List.map_cons, List.flatten_cons, List.length_append, Q0.wgts]; omega
 refine ⟨by omega, ?_, fun c => ?_, fun x hx => by have := Qxg hx; omega⟩
 ·have := s1 Q0.byt v.Items (fun x _ => (Q3t x).2.1); omega
 ·have := s1 (fun x => Vu c x x.inn) v.Items (fun x _ => by have := (Q3t x).2.2 c; omega); omega
theorem Qze (v : Q0) : ∀ m : Int, Fine v → Xv v m = 0 → v.wgt < 4000000000 → v.sz < 1000000000 →
  (∀ N, 3 * v.sz + 300099 ≤ N → Wk N v = some v.inn) ∧ ∀ N, 3 * v.sz + 300100 ≤ N → Xs N v = some v.byt := by
 induction v using Q0.ind with
 | h v ih =>
  intro m hf hc hw hz
  have hs := v.sz_eq
  have hsl := Q0.szs_len v.Items
  obtain ⟨l1, l2, l3, l4⟩ := Q8y hw
  have hit : ∀ x ∈ v.Items, ∃ m', Xv x m' = 0 := fun x hx => by
   rcases Gz hc with ⟨k1, k2, k3⟩ | ⟨_, _, _, _, _, _, k7⟩
   ·rw [(Gd k3).2.2.2.1] at hx; cases hx
   ·exact ⟨_, (k7 x hx).1⟩
  have hsx : ∀ x ∈ v.Items, x.sz + 1 ≤ v.sz := fun x hx => by have := Q0.szs_mem _ x hx; omega
  have hI : ∀ x ∈ v.Items, (∀ N, 3 * x.sz + 300099 ≤ N → Wk N x = some x.inn) ∧ ∀ N, 3 * x.sz + 300100 ≤ N → Xs N x = some x.byt := fun x hx => by
   obtain ⟨m', hm⟩ := hit x hx
   exact ih x hx m' (hf.items x hx) hm (l4 x hx) (by have := hsx x hx; omega)
  have htx := hf.text
  have hW : ∀ N, 3 * v.sz + 300099 ≤ N → Wk N v = some v.inn := by
   intro N hN
   obtain ⟨N, rfl⟩ : ∃ N', N = N' + 2 := ⟨N - 2, by omega⟩
   show Vy (Xs (N + 1)) (Wk (N + 1)) (Q0f (N + 1)) (N + 1) v = _
   rw [Qd9]
   simp only [Vy, Q6, Wb]
   by_cases h4 : v.Kind = 24
   ·rw [if_pos h4, if_pos h4]
    rcases Gz hc with ⟨k1, k2, k3⟩ | ⟨k1, k2, k3, k4, k5, k6, k7⟩
    ·omega
    obtain ⟨s1, s2, s3, s4, s5⟩ := Q39 k4
    have hn := s2 h4
    have hin : Q0f (N + 1) v.Items = some (v.Items.map Q0.inn) :=
     Qdd (R := Wk N) (N := N) (by omega) (fun x hx => (hI x hx).1 N (by have := hsx x hx; omega)) N 0 (by omega) (by omega)
    have hzip : v.Items.zip (v.Items.map Q0.inn) = v.prs := by
     unfold Q0.prs
     have : ∀ l : List Q0, l.zip (l.map Q0.inn) = l.map fun x => (x, x.inn) := by
      intro l
      induction l with
      | nil => rfl
      | cons x l ih => simp [ih]
     exact this _
    have hfi := Qei (N + 1) v.N' v.Items (v.Items.map Q0.inn) (by simp) (by omega) (by omega) (by omega) (fun p hp => by
     rw [hzip] at hp
     unfold Q0.prs at hp
     obtain ⟨x, hx, rfl⟩ := List.mem_map.1 hp
     have f1 := hf.items x hx
     have f2 := f1.text
     have f3 := (Q3t x).1
     have f4 := l4 x hx
     have f5 := hsx x hx
     have f6 := x.sz_eq
     have f7 := Q0.szs_len x.Items
     have f8 := x.wgt_eq
     exact ⟨f1.num, by simp only []; omega, by simp only []; omega, by simp only []; omega, by simp only []; omega⟩)
    rw [hzip] at hfi
    obtain ⟨e1, _⟩ := Qqq hf hc h4
    obtain ⟨d1, _, _⟩ := Q4n _ _ e1
    rw [hin]
    simp only [Option.bind_some]
    rw [Qh _ (by omega), hfi]
    simp only [Option.bind_some]
    have hel : Q3l v.N' v.prs = v.elm := rfl
    rw [hel, Q81 (Q7u d1)]
    have := Qc3 (N := N + 1) (v := v) (c := v.elm) rfl (by omega) (l3 v.elm) (fun x hx => by
     have f1 := hf.items x hx
     have f2 := f1.text
     have f3 := (Q3t x).1
     have f4 := l4 x hx
     have f5 := hsx x hx
     have f6 := x.sz_eq
     have f7 := Q0.szs_len x.Items
     have f8 := x.wgt_eq
     exact Qg2 (N + 1) v.elm x x.inn d1 f1.num (by omega) (by omega) (by omega) (by omega) (by omega)) (N + 1) 0 (by omega) (by omega)
    exact this
   ·rw [if_neg h4, if_neg h4]
    by_cases h5 : v.Kind = 25
    ·rw [if_pos h5]
     simp only [Y3, Q6, Y6, Wy, Qn]
     rw [if_neg (show ¬ (v.Kind ≠ 25) by omega)]
     simp
    ·rw [if_neg h5]
     have := Qc2 (R := Xs (N + 1)) (N := N + 1) h5 (by omega) l2 (fun x hx => (hI x hx).2 (N + 1) (by have := hsx x hx; omega)) (N + 1) 0 (by omega) (by omega)
     exact this
  refine ⟨hW, fun N hN => ?_⟩
  obtain ⟨N, rfl⟩ : ∃ N', N = N' + 1 := ⟨N - 1, by omega⟩
  show Ua (Xs N) (Wk N) (Q0f N) N v = _
  rw [Qnx]
  simp only [Ua, Q6, Wb]
  by_cases h5 : v.Kind = 25
  ·rw [if_pos h5, if_pos h5]
   rcases Gz hc with ⟨k1, k2, k3⟩ | ⟨k1, k2, k3, k4, k5, k6, k7⟩
   ·omega
   have hl := (Q39 k4).2.2.2.1 h5
   match hI' : v.Items, hl with
   | [x, y], _ =>
    have hx : x ∈ v.Items := by rw [hI']; simp
    have hy : y ∈ v.Items := by rw [hI']; simp
    have e0 : idx [x, y] 0 = some x := rfl
    have e1 : idx [x, y] 1 = some y := rfl
    rw [e0, e1]
    have b1 := (Q3t x).2.1
    have b2 := (Q3t y).2.1
    have b3 := l4 x hx
    have b4 := l4 y hy
    simp only [Option.bind_some, (hI x hx).2 N (by have := hsx x hx; omega), (hI y hy).2 N (by have := hsx y hy; omega)]
    rw [if_pos (by simp only [Nat.ble_eq, List.length_cons, List.length_nil]; omega), if_pos (by simp only [Nat.ble_eq, List.length_append, List.length_cons, List.length_nil]; omega)]
    simp
  ·rw [if_neg h5, if_neg h5, hW N (by omega)]
   simp only [Option.bind_some]
   have hfi := Qei N v.Kind [v] [v.inn] rfl (by simp) (by simp; omega) (by omega) (fun p hp => by
    have : p = (v, v.inn) := by simpa using hp
    subst this
    exact ⟨hf.num, by simp only []; omega, by simp only []; omega, by simp only []; omega, by simp only []; omega⟩)
   have hz' : [v].zip [v.inn] = [(v, v.inn)] := rfl
   rw [hfi, hz']
   simp only [Option.bind_some]
   have hco : Q3l v.Kind [(v, v.inn)] = v.cod := rfl
   obtain ⟨e1, _⟩ := Qmk hf hc h5
   obtain ⟨d1, _, _⟩ := Q4n _ _ e1
   have hdl := (Q3t v).2.2 v.cod
   rw [hco, Qg2 N v.cod v v.inn d1 hf.num (by omega) (by omega) (by omega) (by omega) (by omega)]
   simp only [Option.bind_some]
   rw [if_pos (by simp only [Nat.ble_eq, List.length_cons, List.length_nil]; omega), Q81 (Q7u d1)]
   rfl
theorem Qle (N : Nat) (v : Q0) (m : Int) (hf : Fine v) (hw : v.wgt < 4000000000) (hz : v.sz < 1000000000) (hN : 3 * v.sz + 301000 ≤ N) :
  Ue N v m = some (if Vf v m ≠ 0 then ([], Vf v m) else (v.nrm.byt, 0)) := by
 simp only [Ue, Q7h N v m hf (by omega) hz, Option.bind_some, Q6, Wy]
 by_cases h : Vf v m = 0
 ·rw [if_neg (by simp [h]), if_neg (by simp [h]), Qax N v hf (by omega) hz]
  have hc : Xv v m = 0 := by
   unfold Vf at h
   split at h
   ·cases h
   ·exact h
  simp only [Option.bind_some, (Qze v.nrm m (Qh9 hf) (Qeh v m hc) (by rw [Qgm]; exact hw) (by rw [Q8i]; exact hz)).2 N (by rw [Q8i]; omega)]
 ·rw [if_pos h, if_pos h]
end
end Go.Av
namespace Go.Av
noncomputable section
open Go.Proofs
set_option maxRecDepth 100000
abbrev Qki := Q1
mutual
def Q0.frm : Q0 → Qki
 | .mk k n t is => ⟨⟨k, n, t, is⟩, Q0.frms is, if k = 24 then Q0.elm ⟨k, n, t, is⟩ else 0, if 22 ≤ k ∧ k ≤ 24 then ((Q0.inn ⟨k, n, t, is⟩).length : Int) else 0⟩
def Q0.frms : List Q0 → List Qki
 | [] => []
 | v :: l => v.frm :: Q0.frms l
end
theorem Qrx : ∀ l, Q0.frms l = l.map Q0.frm
 | [] => rfl
 | v :: l => by rw [Q0.frms, Qrx l]; rfl
theorem Qc0 (v : Q0) : v.frm = ⟨v, v.Items.map Q0.frm, if v.Kind = 24 then v.elm else 0, if 22 ≤ v.Kind ∧ v.Kind ≤ 24 then (v.inn.length : Int) else 0⟩ := by
 cases v; rw [Q0.frm, Qrx]
theorem Qoe (v : Q0) : v.frm.v = v := by rw [Qc0]
theorem Q88 (v : Q0) : v.frm.kids = v.Items.map Q0.frm := by rw [Qc0]
theorem Q42 (l : List Qki) : (Q1.rows l).length = l.length := by rw [Q1.rows_eq, Gq]
theorem Qtk (N : Nat) (code : Int) (v : Q0) (hc : ofB code = true) (hn : okU v.N') (h : v.Text.length < N) (hb : v.Text.length < 4611686018427387904) (hk : (ofS code).Kind ≠ 25) (hi : (ofS code).Items = true → 22 ≤ v.Kind ∧ v.Kind ≤ 24) (hl : v.inn.length < 1000000000000000000) :
  Yb N v.frm code = some (Q6i code v v.inn) := by
 simp only [Yb, Z9, Qoe, Option.bind_some, Qs1 N code v hn h hb, Q6, Wb, Q42, Q88, List.length_map, Q6i]
 by_cases hi' : (ofS code).Items = false
 ·rw [if_pos (by simp [hi']), if_pos hi']
 ·have hi' : (ofS code).Items = true := by simpa using hi'
  rw [if_neg (show ¬ ((!(ofS code).Items) = true) by simp [hi']), if_neg hk, if_neg (show ¬ ((ofS code).Items = false) by simp [hi'])]
  by_cases hs : (ofS code).Sized = true
  ·have hw := ((Jq hc hi').1 hs).1
   rw [if_neg (show ¬ ((!(ofS code).Sized) = true) by simp [hs]), if_neg (show ¬ (ofS code).Width = 0 by omega)]
   by_cases h4 : (ofS code).Width = 4
   ·rw [if_pos h4]; simp [h4]
   ·rw [if_neg h4, Qc0]
    simp only [if_pos (hi hi')]
    rw [Qh _ (by omega)]
    split
    ·rename_i h5
     rw [Q75] at h5
     congr 1
     rw [Bool.eq_iff_iff, Q75]; simp [h4]; omega
    ·rename_i h5
     rw [Q75] at h5
     congr 1
     symm
     rw [decide_eq_false_iff_not]; omega
  ·have hs : (ofS code).Sized = false := by simpa using hs
   rw [if_pos (show (!(ofS code).Sized) = true by simp [hs]), if_pos (Qrh hc hi' hs)]
   congr 1
   rw [Bool.eq_iff_iff, Wb]; simp
theorem Qh5 {N : Nat} {k0 : Int → Option Int} {l : List Qki} {s54 code : Int} {P : Qki → Bool} (hb : l.length < 1000000000) (hR : ∀ f ∈ l, Yb N f code = some (P f)) : ∀ (n k : Nat) (all : Bool), k ≤ l.length → l.length - k < n →
  Wv N k0 l s54 code n all (k : Int) = if (all && (l.drop k).all P) = true then some code else k0 (IntKind.i64.wrap (s54 + 1))
 | 0, k, all, _, h => by omega
 | n + 1, k, all, hk, hn => by
  simp only [Wv, Q6, Y6, Q42, Za]
  by_cases h : k < l.length
  ·rw [if_pos (by omega), List.getElem?_eq_getElem h, List.drop_eq_getElem_cons h]
   simp only [Option.bind_some, hR _ (List.getElem_mem h)]
   rw [Qh _ (by omega)]
   cases all with
   | false =>
    have ih := Qh5 (N := N) (k0 := k0) (s54 := s54) hb hR n (k + 1) false (by omega) (by omega)
    rw [if_neg (by simp)]
    simp only [Bool.false_and] at ih ⊢
    exact_mod_cast ih
   | true =>
    have ih := Qh5 (N := N) (k0 := k0) (s54 := s54) hb hR n (k + 1) (P l[k]) (by omega) (by omega)
    rw [if_pos rfl]
    simp only [List.all_cons, Bool.true_and]
    exact_mod_cast ih
  ·rw [if_neg (by omega), List.drop_of_length_le (by omega)]
   cases all <;> simp
theorem Qml {N : Nat} {l : List Qki} {v1 : List Int} {P : Int → Qki → Bool} (hb : l.length < 1000000000) (hb1 : v1.length < 1000) (hN : l.length < N) (hR : ∀ c ∈ v1, ∀ f ∈ l, Yb N f c = some (P c f)) : ∀ (n i : Nat), i ≤ v1.length → v1.length - i < n →
  Xt N l v1 n (i : Int) = some (((v1.drop i).find? (fun c => l.all (P c))).getD 0)
 | 0, i, _, h => by omega
 | n + 1, i, hi, hn => by
  simp only [Xt, Q6, Y6, Gq, Za]
  by_cases h : i < v1.length
  ·rw [if_pos (by omega), List.getElem?_eq_getElem h]
   simp only [Option.bind_some]
   have := Qh5 (k0 := Xt N l v1 n) (s54 := (i : Int)) hb (hR _ (List.getElem_mem h)) N 0 true (by omega) (by omega)
   rw [show (0 : Int) = ((0 : Nat) : Int) from rfl, this, List.drop_zero, Bool.true_and, List.drop_eq_getElem_cons h, List.find?_cons]
   cases l.all (P v1[i]) with
   | true => simp
   | false =>
    rw [if_neg (by simp), Qh _ (by omega)]
    exact_mod_cast Qml hb hb1 hN hR n (i + 1) (by omega) (by omega)
  ·rw [if_neg (by omega), List.drop_of_length_le (by omega)]; simp
theorem Qnd (N : Nat) (k : Int) (l : List Qki) (P : Int → Qki → Bool) (hb : l.length < 1000000000) (hN : l.length < N) (hN2 : 10 < N) (hR : ∀ c ∈ Ju k, ∀ f ∈ l, Yb N f c = some (P c f)) : J1 N k l = some (((Ju k).find? (fun c => l.all (P c))).getD 0) := by
 have hc := Qgg k
 simp only [J1, Q3s, Option.bind_some]
 have := Qml (N := N) (v1 := Ju k) hb (by omega) hN hR N 0 (by omega) (by omega)
 rw [List.drop_zero] at this
 exact this
theorem Qih (N : Nat) (k : Int) (l : List Q0) (hk : k ≠ 25) (hb : l.length < 1000000000) (hN : l.length < N) (hN2 : 10 < N) (hl : ∀ x ∈ l, x.Kind = k ∧ k ≤ 24 ∧ okU x.N' ∧ x.Text.length < N ∧ x.Text.length < 4611686018427387904 ∧ x.inn.length < 1000000000000000000) :
  J1 N k (l.map Q0.frm) = some (Q3l k (l.map fun x => (x, x.inn))) := by
 rw [Qnd N k (l.map Q0.frm) (fun c f => Q6i c f.v f.v.inn) (by simpa using hb) (by simpa using hN) hN2 (fun c hc f hf => by
  obtain ⟨x, hx, rfl⟩ := List.mem_map.1 hf
  obtain ⟨h1, h2, h3, h4, h5, h6⟩ := hl x hx
  obtain ⟨d1, d2, d3⟩ := Q4n _ _ hc
  rw [Qoe]
  exact Qtk N c x d1 h3 h4 h5 (by omega) (fun hi => by rw [(Qej c d1).items, d3] at hi; simp at hi; omega) h6)]
 unfold Q3l Qo6
 congr 3
 funext c
 rw [List.all_map, List.all_map]
 congr 1
 funext x
 simp only [Function.comp, Qoe]
theorem Qsm : Ju 25 = [0] := by decide +kernel
theorem Qhq (N : Nat) (v : Q0) (m : Int) (hf : Fine v) (hc : Xv v m = 0) (hw : v.wgt < 4000000000) (hN : 300100 ≤ N) : Wf N v.frm = some (if v.Kind = 25 then 0 else v.cod) := by
 have ht := hf.text
 have hk := Q89 hc
 simp only [Wf, Qoe]
 by_cases h5 : v.Kind = 25
 ·rw [if_pos h5, h5, Qnd N 25 [v.frm] (fun _ _ => true) (by simp) (by simp; omega) (by omega) (fun c hc f hf => by
   rw [Qsm] at hc
   have : c = 0 := by simpa using hc
   subst this
   obtain ⟨o1, o2, o3⟩ := of0
   simp only [Yb, Z9, Option.bind_some, Q6, Wb]
   rw [if_neg (by simp [o3]), if_pos o2]), Qsm]
  rfl
 ·rw [if_neg h5]
  have := Qih N v.Kind [v] h5 (by simp) (by simp; omega) (by omega) (fun x hx => by
   have : x = v := by simpa using hx
   subst this
   exact ⟨rfl, by omega, hf.num, by omega, by omega, (Q8y hw).1⟩)
  rw [show [v.frm] = [v].map Q0.frm from rfl, this]
  rfl
def Q09 (s : List UInt8) : List Int := s.map fun b => (b.toNat : Int)
theorem Q0q (s t : List UInt8) : Q09 (s ++ t) = Q09 s ++ Q09 t := by simp [Q09]
theorem Q18 (s : List UInt8) : (Q09 s).length = s.length := by simp [Q09]
theorem Qqt (N : Nat) (b : List Int) (s : List UInt8) (h : b.length + s.length < 17592186040000) : Vb N ⟨b⟩ s = some ((), ⟨b ++ Q09 s⟩) := by
 simp only [Vb, Q6]
 split
 ·rename_i h1
  have : s = [] := List.length_eq_zero_iff.1 (by simpa using h1)
  subst this
  simp [Q09]
 ·rw [if_pos (by rw [Nat.ble_eq]; omega)]; rfl
theorem Q5e (N : Nat) (b : List Int) (n w : Nat) (hn : n < 9223372036854775808) (hw : w ≤ 8) (hN : 10 < N) (h : b.length < 17592186030000) : Zc N ⟨b⟩ (n : Int) (w : Int) = some ((), ⟨b ++ Q09 (Q05 n w)⟩) := by
 simp only [Zc]
 rw [U5 _ (by omega), Q7l N n w (by omega) hw hN]
 simp only [Option.bind_some]
 rw [Qqt N b _ (by rw [Yk]; omega)]
 rfl
theorem Qyz {c : Int} (h : 0 ≤ c ∧ c < 256) : Q05 c.toNat 1 = [Q3z c] := by
 rw [Q7z]
 simp only [Nat.pow_zero, Nat.div_one, Q05, Q3z]
 rw [Nat.mod_eq_of_lt (by omega)]
theorem Qzr {R : Q2 → Qki → Option (Unit × Q2)} {N : Nat} {f : Qki} {l : List Q0} (hk : f.kids = l.map Q0.frm) (hb : l.length < 1000000000) {b : List Int} (hbl : b.length + (l.map Q0.byt).flatten.length < 17592186030000)
  (hR : ∀ x ∈ l, ∀ b : List Int, b.length + x.byt.length < 17592186030000 → R ⟨⟨b⟩⟩ x.frm = some ((), ⟨⟨b ++ Q09 x.byt⟩⟩)) : ∀ (n i : Nat), i ≤ l.length → l.length - i < n →
  Yx R N f n (i : Int) (b ++ Q09 ((l.take i).map Q0.byt).flatten) = some ((), ⟨⟨b ++ Q09 (l.map Q0.byt).flatten⟩⟩) ∧
  X2 R N f n (i : Int) (b ++ Q09 ((l.take i).map Q0.byt).flatten) = some ((), ⟨⟨b ++ Q09 (l.map Q0.byt).flatten⟩⟩)
 | 0, i, _, h => by omega
 | n + 1, i, hi, hn => by
  simp only [Yx, X2, Q6, Y6, Q42, hk, List.length_map, Za, List.getElem?_map]
  by_cases h : i < l.length
  ·have hft := Q5b Q0.byt l i h
   have h1 := Qbf Q0.byt l (i + 1)
   rw [← hft, List.length_append] at h1
   rw [if_pos (by omega), if_pos (by omega), List.getElem?_eq_getElem h]
   simp only [Option.map_some, Option.bind_some, hR _ (List.getElem_mem h) _ (show (b ++ Q09 ((l.take i).map Q0.byt).flatten).length + l[i].byt.length < 17592186030000 by rw [List.length_append, Q18]; omega)]
   rw [Qh _ (by omega), List.append_assoc, ← Q0q, hft]
   obtain ⟨ih1, ih2⟩ := Qzr (N := N) hk hb hbl hR n (i + 1) (by omega) (by omega)
   exact ⟨by exact_mod_cast ih1, by exact_mod_cast ih2⟩
  ·rw [if_neg (by omega), if_neg (by omega), List.take_of_length_le (by omega)]
   exact ⟨rfl, rfl⟩
theorem Z1p {R : Q2 → Int → Qki → Option (Unit × Q2)} {N : Nat} {f : Qki} {l : List Q0} {c : Int} (hk : f.kids = l.map Q0.frm) (hel : f.element = c) (hb : l.length < 1000000000) {b : List Int} (hbl : b.length + (l.map fun x => Vu c x x.inn).flatten.length < 17592186030000)
  (hR : ∀ x ∈ l, ∀ b : List Int, b.length + (Vu c x x.inn).length < 17592186030000 → R ⟨⟨b⟩⟩ c x.frm = some ((), ⟨⟨b ++ Q09 (Vu c x x.inn)⟩⟩)) : ∀ (n i : Nat), i ≤ l.length → l.length - i < n →
  Yw R N f n (i : Int) (b ++ Q09 ((l.take i).map fun x => Vu c x x.inn).flatten) = some ((), ⟨⟨b ++ Q09 (l.map fun x => Vu c x x.inn).flatten⟩⟩)
 | 0, i, _, h => by omega
 | n + 1, i, hi, hn => by
  simp only [Yw, Q6, Y6, Q42, hk, hel, List.length_map, Za, List.getElem?_map]
  by_cases h : i < l.length
  ·have hft := Q5b (fun x => Vu c x x.inn) l i h
   have h1 := Qbf (fun x => Vu c x x.inn) l (i + 1)
   rw [← hft, List.length_append] at h1
   rw [if_pos (by omega), List.getElem?_eq_getElem h]
   simp only [Option.map_some, Option.bind_some, hR _ (List.getElem_mem h) _ (show (b ++ Q09 ((l.take i).map fun x => Vu c x x.inn).flatten).length + (Vu c l[i] l[i].inn).length < 17592186030000 by rw [List.length_append, Q18]; omega)]
   rw [Qh _ (by omega), List.append_assoc, ← Q0q, hft]
   exact_mod_cast Z1p (N := N) hk hel hb hbl hR n (i + 1) (by omega) (by omega)
  ·rw [if_neg (by omega), List.take_of_length_le (by omega)]
theorem Qr8 {code : Int} (h : ofB code = true) (hi : (ofS code).Items = true) (hs : (ofS code).Sized = true) : ∃ w : Nat, (ofS code).Width = (w : Int) ∧ w ≤ 4 := by
 rcases ((Jq h hi).1 hs).1 with h | h
 ·exact ⟨1, h, by omega⟩
 ·exact ⟨4, h, by omega⟩
def WP (v : Q0) : Prop :=
  (∀ c, (ofB c = true ∧ (ofS c).Kind = v.Kind ∧ v.Kind ≠ 25 ∧ Q6i c v v.inn = true) → ∀ N, 2 * v.sz + 300999 ≤ N → ∀ b : List Int, b.length + (Vu c v v.inn).length < 17592186030000 → Wq N ⟨⟨b⟩⟩ c v.frm = some ((), ⟨⟨b ++ Q09 (Vu c v v.inn)⟩⟩)) ∧
  ∀ N, 2 * v.sz + 301000 ≤ N → ∀ b : List Int, b.length + v.byt.length < 17592186030000 → Zi N ⟨⟨b⟩⟩ v.frm = some ((), ⟨⟨b ++ Q09 v.byt⟩⟩)
theorem Qq3 (v : Q0) : ∀ m : Int, Fine v → Xv v m = 0 → v.wgt < 4000000000 → v.sz < 1000000000 → WP v := by
 induction v using Q0.ind with
 | h v ih =>
  intro m hf hc hw hz
  have hs := v.sz_eq
  have hsl := Q0.szs_len v.Items
  obtain ⟨l1, l2, l3, l4⟩ := Q8y hw
  have htx := hf.text
  have hit : ∀ x ∈ v.Items, ∃ m', Xv x m' = 0 := fun x hx => by
   rcases Gz hc with ⟨k1, k2, k3⟩ | ⟨_, _, _, _, _, _, k7⟩
   ·rw [(Gd k3).2.2.2.1] at hx; cases hx
   ·exact ⟨_, (k7 x hx).1⟩
  have hsx : ∀ x ∈ v.Items, x.sz + 1 ≤ v.sz := fun x hx => by have := Q0.szs_mem _ x hx; omega
  have hI : ∀ x ∈ v.Items, WP x := fun x hx => by
   obtain ⟨m', hm⟩ := hit x hx
   exact ih x hx m' (hf.items x hx) hm (l4 x hx) (by have := hsx x hx; omega)
  have hP : ∀ c, (ofB c = true ∧ (ofS c).Kind = v.Kind ∧ v.Kind ≠ 25 ∧ Q6i c v v.inn = true) → ∀ N, 2 * v.sz + 300999 ≤ N → ∀ b : List Int, b.length + (Vu c v v.inn).length < 17592186030000 → Wq N ⟨⟨b⟩⟩ c v.frm = some ((), ⟨⟨b ++ Q09 (Vu c v v.inn)⟩⟩) := by
   rintro c ⟨c1, c2, c3, c4⟩ N hN b hb
   obtain ⟨N, rfl⟩ : ∃ N', N = N' + 1 := ⟨N - 1, by omega⟩
   show X5 (Zi N) (Wq N) N ⟨⟨b⟩⟩ c v.frm = _
   simp only [X5, Z9, Qoe, Option.bind_some, Q6, Wb, Q42, Q88, List.length_map]
   have hd : Vu c v v.inn = if (ofS c).Items = false then (Qsw c v).1 else if (ofS c).Sized = false then [] else Q05 (v.inn.length + (ofS c).Width.toNat) (ofS c).Width.toNat ++ (Q05 v.Items.length (ofS c).Width.toNat ++ v.inn) := rfl
   by_cases hi : (ofS c).Items = false
   ·rw [if_pos (by simp [hi]), Qyr N c v hf.num (by omega) (by omega) (by omega)]
    rw [if_pos hi] at hd
    rw [hd] at hb ⊢
    simp only [Option.bind_some]
    rw [Qqt N b _ (by omega)]
    rfl
   ·have hi : (ofS c).Items = true := by simpa using hi
    rw [if_neg (by simp [hi])]
    rw [if_neg (by simp [hi])] at hd
    have hkk : 22 ≤ v.Kind ∧ v.Kind ≤ 24 := by
     have h1 := hi
     rw [(Qej c c1).items, c2] at h1
     have := Q89 hc
     simp at h1; omega
    by_cases hs' : (ofS c).Sized = true
    ·rw [if_pos hs']
     rw [if_neg (by simp [hs'])] at hd
     obtain ⟨w, hw1, hw2⟩ := Qr8 c1 hi hs'
     rw [hw1, Int.toNat_natCast] at hd
     rw [hd] at hb ⊢
     simp only [List.length_append, Yk] at hb
     have hin : v.frm.inner = (v.inn.length : Int) := by rw [Qc0]; simp only [if_pos hkk]
     rw [hw1, hin, Qh _ (by omega), show ((w : Int) + (v.inn.length : Int)) = ((v.inn.length + w : Nat) : Int) by push_cast; omega,
      Q5e N b _ w (by omega) (by omega) (by omega) (by omega)]
     simp only [Option.bind_some]
     rw [Q5e N _ _ w (by omega) (by omega) (by omega) (by rw [List.length_append, Q18, Yk]; omega)]
     simp only [Option.bind_some, c2]
     by_cases h4 : v.Kind = 24
     ·rw [if_pos h4]
      obtain ⟨e1, e2⟩ := Qqq hf hc h4
      obtain ⟨d1, d2, d3⟩ := Q4n _ _ e1
      have hr := Q7u d1
      have hel : v.frm.element = v.elm := by rw [Qc0]; simp only [if_pos h4]
      have hin2 := Qd9 v
      rw [if_pos h4] at hin2
      have hl2 := congrArg List.length hin2
      simp only [List.length_cons] at hl2
      rw [hel, show v.elm = ((v.elm.toNat : Nat) : Int) by omega, show (1 : Int) = ((1 : Nat) : Int) from rfl,
       Q5e N _ _ 1 (by omega) (by omega) (by omega) (by simp only [List.length_append, Q18, Yk]; omega)]
      simp only [Option.bind_some]
      rw [Qyz hr]
      rcases Gz hc with ⟨k1, k2, k3⟩ | ⟨k1, k2, k3, k4, k5, k6, k7⟩
      ·omega
      have hnn := (Q39 k4).2.1 h4
      have := Z1p (R := Wq N) (N := N) (f := v.frm) (l := v.Items) (c := v.elm) (Q88 v) hel (by omega) (b := b ++ Q09 (Q05 (v.inn.length + w) w) ++ Q09 (Q05 v.Items.length w) ++ Q09 [Q3z v.elm])
       (by simp only [List.length_append, Q18, Yk, List.length_cons, List.length_nil]; omega)
       (fun x hx b' hb' => (hI x hx).1 v.elm ⟨d1, by
        have := (k7 x hx).2 h4
        rw [Q7n (k7 x hx).1] at this
        rw [d3, this], by
        have := (k7 x hx).2 h4
        rw [Q7n (k7 x hx).1] at this
        omega, e2 x hx⟩ N (by have := hsx x hx; omega) b' hb') N 0 (by omega) (by omega)
      simp only [List.take_zero, List.map_nil, List.flatten_nil, Q09, List.append_nil] at this
      have e : (b ++ Q09 (Q05 (v.inn.length + w) w) ++ Q09 (Q05 v.Items.length w) ++ Q09 [Q3z v.elm] ++ Q09 ((v.Items.map fun x => Vu v.elm x x.inn).flatten)) = b ++ Q09 (Q05 (v.inn.length + w) w ++ (Q05 v.Items.length w ++ v.inn)) := by
       have hi3 : Q09 v.inn = Q09 [Q3z v.elm] ++ Q09 ((v.Items.map fun x => Vu v.elm x x.inn).flatten) := by rw [← Q0q]; exact congrArg Q09 hin2
       rw [Q0q, Q0q, hi3]
       simp only [List.append_assoc]
      rw [← e]
      exact this
     ·rw [if_neg h4]
      have hin2 := Qd9 v
      rw [if_neg h4, if_neg c3] at hin2
      have hl2 := congrArg List.length hin2
      have := (Qzr (R := Zi N) (N := N) (f := v.frm) (l := v.Items) (Q88 v) (by omega) (b := b ++ Q09 (Q05 (v.inn.length + w) w) ++ Q09 (Q05 v.Items.length w))
       (by simp only [List.length_append, Q18, Yk]; omega)
       (fun x hx b' hb' => (hI x hx).2 N (by have := hsx x hx; omega) b' hb') N 0 (by omega) (by omega)).1
      simp only [List.take_zero, List.map_nil, List.flatten_nil, Q09, List.append_nil] at this
      have e : (b ++ Q09 (Q05 (v.inn.length + w) w) ++ Q09 (Q05 v.Items.length w) ++ Q09 (v.Items.map Q0.byt).flatten) = b ++ Q09 (Q05 (v.inn.length + w) w ++ (Q05 v.Items.length w ++ v.inn)) := by
       rw [Q0q, Q0q, ← hin2]
       simp only [List.append_assoc]
      rw [← e]
      exact this
    ·have hs' : (ofS c).Sized = false := by simpa using hs'
     rw [if_neg (by simp [hs'])]
     rw [if_pos hs'] at hd
     have hk := (Jq c1 hi).2 hs'
     unfold Q6i at c4
     rw [if_neg (by simp [hi]), if_pos (Qrh c1 hi hs')] at c4
     have hl0 : v.Items = [] := List.length_eq_zero_iff.1 (by simpa using c4)
     rw [hd, if_neg (by omega)]
     have := (Qzr (R := Zi N) (N := N) (f := v.frm) (l := v.Items) (Q88 v) (by omega) (b := b) (by rw [hl0]; simp; omega) (fun x hx => by rw [hl0] at hx; cases hx) N 0 (by omega) (by omega)).2
     rw [hl0] at this
     simpa [Q09] using this
  refine ⟨hP, fun N hN b hb => ?_⟩
  obtain ⟨N, rfl⟩ : ∃ N', N = N' + 1 := ⟨N - 1, by omega⟩
  show Vi (Zi N) (Wq N) N ⟨⟨b⟩⟩ v.frm = _
  simp only [Vi, Qhq N v m hf hc hw (by omega), Option.bind_some]
  have hbe := Qnx v
  have hbl := congrArg List.length hbe
  by_cases h5 : v.Kind = 25
  ·rw [if_pos h5] at hbe hbl ⊢
   simp only [List.length_cons] at hbl
   have hn := Q5e N b 0 1 (by omega) (by omega) (by omega) (by omega)
   rw [show ((0 : Nat) : Int) = 0 from rfl, show ((1 : Nat) : Int) = 1 from rfl] at hn
   rw [hn]
   simp only [Option.bind_some]
   obtain ⟨N, rfl⟩ : ∃ N', N = N' + 1 := ⟨N - 1, by omega⟩
   show ((X5 (Zi N) (Wq N) N ⟨⟨b ++ Q09 (Q05 0 1)⟩⟩ 0 v.frm).bind _) = _
   obtain ⟨o1, o2, o3⟩ := of0
   have o4 : (ofS 0).Sized = false := by decide +kernel
   simp only [X5, Z9, Option.bind_some, Q6, Wb]
   rw [if_neg (by simp [o3]), if_neg (by simp [o4]), if_neg (by omega)]
   have := (Qzr (R := Zi N) (N := N) (f := v.frm) (l := v.Items) (Q88 v) (by omega) (b := b ++ Q09 (Q05 0 1))
    (by simp only [List.length_append, Q18, Yk]; omega)
    (fun x hx b' hb' => (hI x hx).2 N (by have := hsx x hx; omega) b' hb') N 0 (by omega) (by omega)).2
   simp only [List.take_zero, List.map_nil, List.flatten_nil, Q09, List.append_nil] at this
   have h0 : (((0 : Nat) : Int)) = 0 := rfl
   rw [h0] at this
   simp only [Q09] at *
   rw [this]
   simp only [Option.bind_some]
   rw [hbe]
   simp [Q05]
  ·rw [if_neg h5] at hbe hbl ⊢
   simp only [List.length_cons] at hbl
   obtain ⟨g1, g2⟩ := Qmk hf hc h5
   obtain ⟨d1, d2, d3⟩ := Q4n _ _ g1
   have hr := Q7u d1
   have hn := Q5e N b v.cod.toNat 1 (by omega) (by omega) (by omega) (by omega)
   rw [Qyz hr, show ((v.cod.toNat : Nat) : Int) = v.cod by omega, show ((1 : Nat) : Int) = 1 from rfl] at hn
   rw [hn]
   simp only [Option.bind_some]
   rw [hP v.cod ⟨d1, d3, h5, g2⟩ N (by omega) _ (by rw [List.length_append, Q18]; simp; omega)]
   simp only [Option.bind_some]
   rw [hbe]
   simp [Q09]
end
end Go.Av
namespace Go.Av
noncomputable section
open Go.Proofs
set_option maxRecDepth 100000
theorem Qqb (v : Q0) : v.byt.length = 1 + (if v.Kind = 25 then (v.Items.map Q0.byt).flatten.length else (Vu v.cod v v.inn).length) := by
 rw [Qnx]
 split <;> simp <;> omega
theorem Qmr {R : Qki → Int → Option Int} {N : Nat} {f : Qki} {l : List Q0} (hk : f.kids = l.map Q0.frm) (hb : l.length < 1000000000) (hl : (l.map Q0.byt).flatten.length < 1000000000000000000) (hN : 300100 ≤ N)
  (hv : ∀ x ∈ l, (∃ m, Xv x m = 0) ∧ Fine x ∧ x.wgt < 4000000000) (hR : ∀ x ∈ l, R x.frm (if x.Kind = 25 then 0 else x.cod) = some ((if x.Kind = 25 then (x.Items.map Q0.byt).flatten.length else (Vu x.cod x x.inn).length : Nat) : Int)) : ∀ (n i : Nat), i ≤ l.length → l.length - i < n →
  Xg R N f n (((l.take i).map Q0.byt).flatten.length : Nat) (i : Int) = some (((l.map Q0.byt).flatten.length : Nat) : Int)
 | 0, i, _, h => by omega
 | n + 1, i, hi, hn => by
  simp only [Xg, Q6, Y6, Q42, hk, List.length_map, Za, List.getElem?_map]
  by_cases h : i < l.length
  ·have hft := Q5b Q0.byt l i h
   have h1 := Qbf Q0.byt l (i + 1)
   rw [← hft, List.length_append] at h1
   obtain ⟨⟨m, h2⟩, h3, h4⟩ := hv _ (List.getElem_mem h)
   rw [if_pos (by omega), List.getElem?_eq_getElem h]
   simp only [Option.map_some, Option.bind_some, Qhq N l[i] m h3 h2 h4 hN, hR _ (List.getElem_mem h)]
   have hbl := Qqb l[i]
   have e : (((l.take i).map Q0.byt).flatten.length : Int) + IntKind.i64.wrap (1 + ((if l[i].Kind = 25 then (l[i].Items.map Q0.byt).flatten.length else (Vu l[i].cod l[i] l[i].inn).length : Nat) : Int)) = ((((l.take (i + 1)).map Q0.byt).flatten.length : Nat) : Int) := by
    rw [← hft, List.length_append, hbl]
    rw [Qh _ (by omega)]
    push_cast; rfl
   rw [e, Qh _ (by rw [← hft, List.length_append]; omega), Qh _ (by omega)]
   exact_mod_cast Qmr (N := N) hk hb hl hN hv hR n (i + 1) (by omega) (by omega)
  ·rw [if_neg (by omega), List.take_of_length_le (by omega)]
def FP (v : Q0) : Prop :=
 (∀ N, 2 * v.sz + 301000 ≤ N → ∀ c, (ofB c = true ∧ (ofS c).Kind = v.Kind ∧ v.Kind ≠ 25 ∧ Q6i c v v.inn = true) → Ya N v.frm c = some ((Vu c v v.inn).length : Int)) ∧
 (∀ N, 2 * v.sz + 301000 ≤ N → v.Kind = 25 → Ya N v.frm 0 = some ((v.Items.map Q0.byt).flatten.length : Int)) ∧
 ∀ N, 2 * v.sz + 300999 ≤ N → ∀ e i, Y1 N ⟨v, v.Items.map Q0.frm, e, i⟩ = some ((v.Items.map Q0.byt).flatten.length : Int)
theorem Ql8 (v : Q0) : ∀ m : Int, Fine v → Xv v m = 0 → v.wgt < 4000000000 → v.sz < 1000000000 → FP v := by
 induction v using Q0.ind with
 | h v ih =>
  intro m hf hc hw hz
  have hs := v.sz_eq
  have hsl := Q0.szs_len v.Items
  obtain ⟨l1, l2, l3, l4⟩ := Q8y hw
  have htx := hf.text
  have hit : ∀ x ∈ v.Items, ∃ m', Xv x m' = 0 := fun x hx => by
   rcases Gz hc with ⟨k1, k2, k3⟩ | ⟨_, _, _, _, _, _, k7⟩
   ·rw [(Gd k3).2.2.2.1] at hx; cases hx
   ·exact ⟨_, (k7 x hx).1⟩
  have hsx : ∀ x ∈ v.Items, x.sz + 1 ≤ v.sz := fun x hx => by have := Q0.szs_mem _ x hx; omega
  have hI : ∀ x ∈ v.Items, FP x := fun x hx => by
   obtain ⟨m', hm⟩ := hit x hx
   exact ih x hx m' (hf.items x hx) hm (l4 x hx) (by have := hsx x hx; omega)
  have hW : ∀ N, 2 * v.sz + 300999 ≤ N → ∀ e i, Y1 N ⟨v, v.Items.map Q0.frm, e, i⟩ = some ((v.Items.map Q0.byt).flatten.length : Int) := by
   intro N hN e i
   obtain ⟨N, rfl⟩ : ∃ N', N = N' + 1 := ⟨N - 1, by omega⟩
   have := Qmr (R := Ya N) (N := N) (f := ⟨v, v.Items.map Q0.frm, e, i⟩) (l := v.Items) rfl (by omega) l2 (by omega) (fun x hx => ⟨hit x hx, hf.items x hx, l4 x hx⟩) (fun x hx => by
    obtain ⟨p1, p2, _⟩ := hI x hx
    obtain ⟨m', hm⟩ := hit x hx
    have := hsx x hx
    by_cases h5 : x.Kind = 25
    ·rw [if_pos h5, if_pos h5]; exact p2 N (by omega) h5
    ·rw [if_neg h5, if_neg h5]
     obtain ⟨g1, g2⟩ := Qmk (hf.items x hx) hm h5
     obtain ⟨d1, d2, d3⟩ := Q4n _ _ g1
     exact p1 N (by omega) x.cod ⟨d1, d3, h5, g2⟩) N 0 (by omega) (by omega)
   exact this
  refine ⟨fun N hN c hcc => ?_, fun N hN h5 => ?_, hW⟩
  ·obtain ⟨c1, c2, c3, c4⟩ := hcc
   obtain ⟨N, rfl⟩ : ∃ N', N = N' + 1 := ⟨N - 1, by omega⟩
   show Wg (Ya N) (Y1 N) N v.frm c = _
   simp only [Wg, Z9, Option.bind_some, Q6, Wb, Qoe]
   rw [if_neg (by omega)]
   have hww := Qnh c
   by_cases hi : (ofS c).Items = true
   ·rw [if_pos hi]
    have hkk : 22 ≤ v.Kind ∧ v.Kind ≤ 24 := by
     have h1 := hi
     rw [(Qej c c1).items, c2] at h1
     have := Q89 hc
     simp at h1; omega
    by_cases hs' : (ofS c).Sized = true
    ·rw [if_pos hs']
     have hin : v.frm.inner = (v.inn.length : Int) := by rw [Qc0]; simp only [if_pos hkk]
     have hd : (Vu c v v.inn).length = (ofS c).Width.toNat + ((ofS c).Width.toNat + v.inn.length) := by
      unfold Vu
      rw [if_neg (by simp [hi]), if_neg (by simp [hs'])]
      simp [Yk]
     rw [hin, hd, Qh (2 * (ofS c).Width) (by omega), Qh _ (by omega)]
     congr 1
     omega
    ·have hs' : (ofS c).Sized = false := by simpa using hs'
     rw [if_neg (by simp [hs']), Qrh c1 hi hs']
     have hd : Vu c v v.inn = [] := by
      unfold Vu
      rw [if_neg (by simp [hi]), if_pos hs']
     rw [hd]; rfl
   ·have hi : (ofS c).Items = false := by simpa using hi
    rw [if_neg (by simp [hi])]
    have hf' : Q34 c v = true := by unfold Q6i at c4; rw [if_pos hi] at c4; exact c4
    have hd : Vu c v v.inn = Q2e (ofS c) v := by unfold Vu; rw [if_pos hi, Qz1 hf']
    have hl := Q8a hf'
    rw [hd, hl]
    by_cases hs' : (ofS c).Sized = true
    ·rw [if_pos hs', if_pos hs', Qh _ (by omega)]
     congr 1; push_cast; omega
    ·rw [if_neg hs', if_neg hs']
     congr 1; push_cast; omega
  ·obtain ⟨N, rfl⟩ : ∃ N', N = N' + 1 := ⟨N - 1, by omega⟩
   show Wg (Ya N) (Y1 N) N v.frm 0 = _
   obtain ⟨o1, o2, o3⟩ := of0
   simp only [Wg, Z9, Option.bind_some, Q6, Wb]
   rw [if_pos o2]
   rw [Qc0, hW N (by omega)]
   rfl
theorem Qne {N : Nat} {f : Qki} {l : List Q0} {c : Int} (hk : f.kids = l.map Q0.frm) (he : f.element = c) (hb : l.length < 1000000000) (hl : (l.map fun x => Vu c x x.inn).flatten.length < 1000000000000000000)
  (hR : ∀ x ∈ l, Ya N x.frm c = some ((Vu c x x.inn).length : Int)) : ∀ (n i : Nat), i ≤ l.length → l.length - i < n →
  Xc N f n ((1 + ((l.take i).map fun x => Vu c x x.inn).flatten.length : Nat) : Int) (i : Int) = some ((1 + (l.map fun x => Vu c x x.inn).flatten.length : Nat) : Int)
 | 0, i, _, h => by omega
 | n + 1, i, hi, hn => by
  simp only [Xc, Q6, Y6, Q42, hk, he, List.length_map, Za, List.getElem?_map]
  by_cases h : i < l.length
  ·have hft := Q5b (fun x => Vu c x x.inn) l i h
   have h1 := Qbf (fun x => Vu c x x.inn) l (i + 1)
   rw [← hft, List.length_append] at h1
   rw [if_pos (by omega), List.getElem?_eq_getElem h]
   simp only [Option.map_some, Option.bind_some, hR _ (List.getElem_mem h)]
   have e : ((1 + ((l.take i).map fun x => Vu c x x.inn).flatten.length : Nat) : Int) + ((Vu c l[i] l[i].inn).length : Int) = ((1 + ((l.take (i + 1)).map fun x => Vu c x x.inn).flatten.length : Nat) : Int) := by
    rw [← hft, List.length_append]
    push_cast; omega
   rw [e, Qh _ (by rw [← hft, List.length_append]; omega), Qh _ (by omega)]
   exact_mod_cast Qne (N := N) hk he hb hl hR n (i + 1) (by omega) (by omega)
  ·rw [if_neg (by omega), List.take_of_length_le (by omega)]
theorem Qjl {R : Q0 → Option Qki} {N : Nat} {v : Q0} {m : Int} (hf : Fine v) (hc : Xv v m = 0) (hw : v.wgt < 4000000000) (hz : v.sz < 1000000000) (hN : 2 * v.sz + 301000 ≤ N) (hR : ∀ x ∈ v.Items, R x = some x.frm) : ∀ (n i : Nat), i ≤ v.Items.length → v.Items.length - i < n →
  Vo R N v n (i : Int) ((v.Items.take i).map Q0.frm) = some v.frm
 | 0, i, _, h => by omega
 | n + 1, i, hi, hn => by
  have hs := v.sz_eq
  have hsl := Q0.szs_len v.Items
  simp only [Vo, Q6, Y6, Wb, Qn, Za]
  by_cases h : i < v.Items.length
  ·rw [if_pos (by omega), List.getElem?_eq_getElem h]
   simp only [Option.bind_some, hR _ (List.getElem_mem h)]
   rw [if_pos (by rw [Nat.ble_eq, List.length_map, List.length_take]; omega), Qh _ (by omega)]
   have e : (v.Items.take i).map Q0.frm ++ [v.Items[i].frm] = (v.Items.take (i + 1)).map Q0.frm := by
    rw [List.take_succ_eq_append_getElem h, List.map_append]; rfl
   rw [e]
   exact_mod_cast Qjl hf hc hw hz hN hR n (i + 1) (by omega) (by omega)
  ·rw [if_neg (by omega), List.take_of_length_le (by omega)]
   obtain ⟨l1, l2, l3, l4⟩ := Q8y hw
   obtain ⟨_, _, hW⟩ := Ql8 v m hf hc hw hz
   have hfe := Qc0 v
   by_cases h4 : v.Kind = 24
   ·rcases Gz hc with ⟨k1, k2, k3⟩ | ⟨k1, k2, k3, k4, k5, k6, k7⟩
    ·omega
    have hnn := (Q39 k4).2.1 h4
    rw [if_pos h4, Qh _ (by omega), Qih N v.N' v.Items (by omega) (by omega) (by omega) (by omega) (fun x hx => by
     have f1 := hf.items x hx
     have f2 := f1.text
     have f3 := (Q8y (l4 x hx)).1
     have := (k7 x hx).2 h4
     rw [Q7n (k7 x hx).1] at this
     exact ⟨this, by omega, f1.num, by omega, by omega, f3⟩)]
    have hel : Q3l v.N' (v.Items.map fun x => (x, x.inn)) = v.elm := rfl
    obtain ⟨e1, e2⟩ := Qqq hf hc h4
    obtain ⟨d1, d2, d3⟩ := Q4n _ _ e1
    have := Qne (N := N) (f := ⟨v, v.Items.map Q0.frm, v.elm, 0⟩) (l := v.Items) (c := v.elm) rfl rfl (by omega) (l3 v.elm) (fun x hx => by
     have := (k7 x hx).2 h4
     rw [Q7n (k7 x hx).1] at this
     exact (Ql8 x _ (hf.items x hx) (k7 x hx).1 (l4 x hx) (by have := Q0.szs_mem _ x hx; omega)).1 N (by have := Q0.szs_mem _ x hx; omega) v.elm ⟨d1, by rw [d3, this], by omega, e2 x hx⟩) N 0 (by omega) (by omega)
    have hal : Ug N ⟨v, v.Items.map Q0.frm, v.elm, 0⟩ = some (v.inn.length : Int) := by
     have hin := Qd9 v
     rw [if_pos h4] at hin
     have hil : v.inn.length = 1 + (v.Items.map fun x => Vu v.elm x x.inn).flatten.length := by rw [hin]; simp; omega
     rw [hil]; exact this
    simp only [Option.bind_some, hel, h4, hal]
    rw [if_neg (by decide), if_neg (by decide), if_pos (by decide), hfe]
    simp only [h4]
    rfl
   ·rw [if_neg h4]
    by_cases h2 : v.Kind = 22
    ·rw [if_pos (by simp [h2]), hW N (by omega), hfe]
     have hin := Qd9 v
     rw [if_neg h4, if_neg (by omega)] at hin
     rw [hin]
     simp only [Option.bind_some, h2]
     rfl
    ·rw [if_neg (by simpa using h2)]
     by_cases h3 : v.Kind = 23
     ·rw [if_pos (by simp [h3]), hW N (by omega), hfe]
      have hin := Qd9 v
      rw [if_neg h4, if_neg (by omega)] at hin
      rw [hin]
      simp only [Option.bind_some, h3]
      rfl
     ·rw [if_neg (by simpa using h3), if_neg (by simpa using h4), hfe, if_neg h4, if_neg (by omega)]
theorem Qe4 : ∀ (N : Nat) (v : Q0) (m : Int), Fine v → Xv v m = 0 → v.wgt < 4000000000 → v.sz < 1000000000 → 3 * v.sz + 301000 < N → U2 N v = some v.frm
 | 0, v, _, _, _, _, _, h => by omega
 | N + 1, v, m, hf, hc, hw, hz, hN => by
  have hs := v.sz_eq
  have hsl := Q0.szs_len v.Items
  obtain ⟨l1, l2, l3, l4⟩ := Q8y hw
  have := Qjl (R := U2 N) (N := N) hf hc hw hz (by omega) (fun x hx => by
   have h1 := Q0.szs_mem _ x hx
   have h2 : ∃ m', Xv x m' = 0 := by
    rcases Gz hc with ⟨k1, k2, k3⟩ | ⟨_, _, _, _, _, _, k7⟩
    ·rw [(Gd k3).2.2.2.1] at hx; cases hx
    ·exact ⟨_, (k7 x hx).1⟩
   obtain ⟨m', hm⟩ := h2
   exact Qe4 N x m' (hf.items x hx) hm (l4 x hx) (by omega) (by omega)) N 0 (by omega) (by omega)
  exact this
theorem Qjz {v : Q0} {m : Int} (h : Vf v m = 0) : Xv v m = 0 ∧ 0 ≤ m ∧ m ≤ 32 := by
 unfold Vf at h
 split at h
 ·cases h
 ·rename_i hr
  unfold Q7t at hr
  simp at hr
  exact ⟨h, hr.1, hr.2⟩
theorem Qj6 (s : List UInt8) : (Q09 s).map (fun n => UInt8.ofNat n.toNat) = s := by
 unfold Q09
 rw [List.map_map]
 conv => rhs; rw [← List.map_id s]
 apply List.map_congr_left
 intro b _
 simp
theorem Qu4 (N : Nat) (v : Q0) (m : Int) (hf : Fine v) (hw : v.wgt < 4000000000) (hz : v.sz < 1000000000) (hN : 3 * v.sz + 302000 ≤ N) : Q01 N v m = some (if Vf v m ≠ 0 then ([], Vf v m) else (v.nrm.byt, 0)) := by
 simp only [Q01, Qdq N v m hf (by omega) hz, Option.bind_some, Q6, Wy]
 by_cases h : Vf v m = 0
 ·obtain ⟨hc, _⟩ := Qjz h
  have hnf := Qh9 hf
  have hnc := Qeh v m hc
  have hnw : v.nrm.wgt < 4000000000 := by rw [Qgm]; exact hw
  have hnz : v.nrm.sz < 1000000000 := by rw [Q8i]; exact hz
  have hl := (Q3t v.nrm).2.1
  rw [if_neg (by simp [h]), if_neg (by simp [h]), Qgt N v (by omega) hz]
  simp only [Option.bind_some]
  rw [Qe4 N v.nrm m hnf hnc hnw hnz (by rw [Q8i]; omega)]
  simp only [Option.bind_some]
  rw [(Qq3 v.nrm m hnf hnc hnw hnz).2 N (by rw [Q8i]; omega) [] (by simp; omega)]
  simp only [Option.bind_some, Ut, List.nil_append, Qj6]
 ·rw [if_pos h, if_pos h]
theorem Qy0 (N : Nat) (v : Q0) (m : Int) (hf : Fine v) (hw : v.wgt < 4000000000) (hz : v.sz < 1000000000) (hN : 3 * v.sz + 302000 ≤ N) : Q0b N v m = some (if Vf v m ≠ 0 then (0, Vf v m) else ((v.nrm.byt.length : Int), 0)) := by
 simp only [Q0b, Qdq N v m hf (by omega) hz, Option.bind_some, Q6, Wy]
 by_cases h : Vf v m = 0
 ·obtain ⟨hc, _⟩ := Qjz h
  have hnf := Qh9 hf
  have hnc := Qeh v m hc
  have hnw : v.nrm.wgt < 4000000000 := by rw [Qgm]; exact hw
  have hnz : v.nrm.sz < 1000000000 := by rw [Q8i]; exact hz
  have hl := (Q3t v.nrm).2.1
  have hbl := Qqb v.nrm
  rw [if_neg (by simp [h]), if_neg (by simp [h]), Qgt N v (by omega) hz]
  simp only [Option.bind_some]
  rw [Qe4 N v.nrm m hnf hnc hnw hnz (by rw [Q8i]; omega)]
  simp only [Option.bind_some]
  rw [Qhq N v.nrm m hnf hnc hnw (by omega)]
  simp only [Option.bind_some]
  obtain ⟨p1, p2, _⟩ := Ql8 v.nrm m hnf hnc hnw hnz
  by_cases h5 : v.nrm.Kind = 25
  ·rw [if_pos h5] at hbl ⊢
   rw [p2 N (by rw [Q8i]; omega) h5]
   simp only [Option.bind_some]
   rw [Qh _ (by omega), hbl]; push_cast; rfl
  ·rw [if_neg h5] at hbl ⊢
   obtain ⟨g1, g2⟩ := Qmk hnf hnc h5
   obtain ⟨d1, d2, d3⟩ := Q4n _ _ g1
   rw [p1 N (by rw [Q8i]; omega) _ ⟨d1, d3, h5, g2⟩]
   simp only [Option.bind_some]
   rw [Qh _ (by omega), hbl]; push_cast; rfl
 ·rw [if_pos h, if_pos h]
end
end Go.Av
namespace Go.Av
noncomputable section
open Go.Proofs
set_option maxRecDepth 100000
theorem Qwr (v : Q0) (h : v.txt) : v.wgt ≤ 430 * v.sz := by
 induction v using Q0.ind with
 | h v ih =>
  rw [Q0.txt_eq] at h
  have hl : ∀ l : List Q0, (∀ x ∈ l, x.wgt ≤ 430 * x.sz) → Q0.wgts l ≤ 430 * Q0.szs l := by
   intro l
   induction l with
   | nil => intro _; simp [Q0.wgts]
   | cons x l ihl =>
    intro h
    have h1 := h x (.head _)
    have h2 := ihl (fun y hy => h y (.tail _ hy))
    simp only [Q0.wgts, Q0.szs]; omega
  have := hl v.Items (fun x hx => ih x hx (Qhh _ h.2 x hx))
  rw [v.wgt_eq, v.sz_eq]; omega
end
end Go.Av
namespace Go.Av
noncomputable section
open Go.Proofs
set_option maxRecDepth 100000
end
end Go.Av
namespace Go.Av
noncomputable section
open Go.Proofs
set_option maxRecDepth 100000
end
end Go.Av
namespace Go.Av
noncomputable section
open Go.Proofs
set_option maxRecDepth 100000
def Q5m (l : Qw) : Bool := decide (16 ≤ l.MaxPacket ∧ l.MaxPacket ≤ 1048576 ∧ 0 ≤ l.MaxDepth ∧ l.MaxDepth ≤ 32)
def Qgq (f : Qf) : Bool := decide (0 ≤ f.Channel ∧ f.Channel ≤ 65535 ∧ f.Ext.length ≤ 1012 ∧ f.Ext.length % 4 = 0)
noncomputable def Qan (m : Int) : List Q0 → Int
 | [] => 0
 | x :: l => if Vf x m ≠ 0 then Vf x m else Qan m l
def Q1o (l : List Q0) : List UInt8 := (l.map fun x => x.nrm.byt).flatten
def Qar (f : Qf) : Nat := 8 + f.Ext.length + (Q1o f.Values).length
noncomputable def Q6s (f : Qf) (l : Qw) : Int :=
 if Q5m l = false then 2 else if ¬ (f.Type' = 0 ∨ f.Type' = 1) then 8 else if Qgq f = false then 2 else if 1000 < f.Values.length then 4
 else if Qan l.MaxDepth f.Values ≠ 0 then Qan l.MaxDepth f.Values else if l.MaxPacket < (Qar f : Int) then 4 else 0
def Q7i (f : Qf) : List UInt8 := [Q3z (2 + f.Ext.length / 4 : Nat), Q3z f.Type'] ++ Q05 f.Channel.toNat 2 ++ f.Ext
def Qjq (f : Qf) : List UInt8 := Q05 (Qar f) 4 ++ (Q7i f ++ Q1o f.Values)
structure FB (f : Qf) : Prop where
 fine : ∀ x ∈ f.Values, Fine x
 sz : Q0.szs f.Values < 160000000
 wgt : Q0.wgts f.Values < 4000000000
theorem FB.one {f : Qf} (h : FB f) : ∀ x ∈ f.Values, Fine x ∧ x.sz < 160000000 ∧ x.wgt < 4000000000 := fun x hx => by
 have h1 := Q0.szs_mem _ x hx
 have h2 := Qi4 _ x hx
 have h3 := h.sz
 have h4 := h.wgt
 exact ⟨h.fine x hx, by omega, by omega⟩
theorem FB.len {f : Qf} (h : FB f) : f.Values.length < 160000000 := by
 have h1 := Q0.szs_len f.Values
 have h2 := h.sz
 omega
theorem Qed (l : List Q0) : (Q1o l).length ≤ Q0.wgts l := by
 unfold Q1o
 induction l with
 | nil => simp
 | cons x l ih =>
  have h1 := (Q3t x.nrm).2.1
  rw [Qgm] at h1
  simp only [List.map_cons, List.flatten_cons, List.length_append, Q0.wgts]; omega
theorem Qj4 (l m : List Q0) : Q1o (l ++ m) = Q1o l ++ Q1o m := by simp [Q1o]
theorem Qs5 (x : Q0) : Q1o [x] = x.nrm.byt := by simp [Q1o]
theorem Qbe (l : List Q0) (i : Nat) (h : i < l.length) : Q1o (l.take i) ++ l[i].nrm.byt = Q1o (l.take (i + 1)) := by
 rw [List.take_succ_eq_append_getElem h, Qj4, Qs5]
theorem Qgu (l : List Q0) (i : Nat) : (Q1o (l.take i)).length ≤ (Q1o l).length := by
 conv => rhs; rw [← List.take_append_drop i l, Qj4, List.length_append]
 omega
theorem Qaz (N : Nat) (l : Qw) : Jv N l = some (Q5m l) := by
 unfold Jv Q5m
 simp only [Q6, Qcc, Q75]
 repeat' split
 all_goals (congr 1; symm)
 ·rw [Bool.eq_iff_iff]; simp only [decide_eq_true_eq, Q75]; omega
 all_goals (rw [decide_eq_false_iff_not]; omega)
theorem Qa0 (N : Nat) (l : Qw) : U9 N l = some (Q5m l) := Qaz N l
theorem Qmh (N : Nat) (n : Int) : G0 N n = some (decide (n = 0 ∨ n = 1)) := by
 unfold G0
 simp only [Q6, Wb]
 split
 ·rename_i h; simp [h]
 ·rename_i h
  congr 1
  rw [Bool.eq_iff_iff, Wb]; simp [h]
theorem Qj3 {m : Int} : ∀ {l : List Q0}, Qan m l = 0 → ∀ x ∈ l, Vf x m = 0
 | y :: l, h, x, hx => by
  rw [Qan] at h
  split at h
  ·rename_i h1; exact absurd h h1
  ·rename_i h1
   rcases List.mem_cons.1 hx with rfl | hx
   ·exact Classical.byContradiction h1
   ·exact Qj3 h x hx
theorem Qg1 {N : Nat} (hN : N = 800000000) {f : Qf} {l : Qw} (hf : FB f) (he : f.Ext.length ≤ 1012) (hv : ∀ x ∈ f.Values, Vf x l.MaxDepth = 0) : ∀ (n i : Nat), i ≤ f.Values.length → f.Values.length - i < n →
  U1 N f l n ((8 + f.Ext.length + (Q1o (f.Values.take i)).length : Nat) : Int) (i : Int) = some (if l.MaxPacket < (Qar f : Int) then 4 else 0)
 | 0, i, _, h => by omega
 | n + 1, i, hi, hn => by
  simp only [U1, Q6, Y6, Q2c, Qn, Za]
  have hbl := Qed f.Values
  have hw := hf.wgt
  have hfl := hf.len
  by_cases h : i < f.Values.length
  ·have hx := List.getElem_mem h
   obtain ⟨h1, h2, h3⟩ := hf.one _ hx
   have ht := Qbe f.Values i h
   have hle := Qgu f.Values (i + 1)
   rw [← ht, List.length_append] at hle
   rw [if_pos (by omega), List.getElem?_eq_getElem h]
   simp only [Option.bind_some]
   rw [Qy0 N _ _ h1 h3 (by omega) (by omega), if_neg (show ¬ (Vf f.Values[i] l.MaxDepth ≠ 0) by simp [hv _ hx])]
   simp only [Option.bind_some]
   rw [Qh _ (by omega), Qh _ (by omega), show ((8 + f.Ext.length + (Q1o (f.Values.take i)).length : Nat) : Int) + (f.Values[i].nrm.byt.length : Int) = ((8 + f.Ext.length + (Q1o (f.Values.take (i + 1))).length : Nat) : Int) by rw [← ht, List.length_append]; omega]
   exact_mod_cast Qg1 hN hf he hv n (i + 1) (by omega) (by omega)
  ·rw [if_neg (by omega), List.take_of_length_le (by omega)]
   unfold Qar
   split
   ·rfl
   ·rfl
theorem Qfo {N : Nat} (hN : N = 800000000) {f : Qf} {l : Qw} (hf : FB f) (he : f.Ext.length ≤ 1012) : ∀ (n i : Nat), i ≤ f.Values.length → f.Values.length - i < n → (∀ x ∈ f.Values.take i, Vf x l.MaxDepth = 0) →
  U0 N f l n (i : Int) = some (if Qan l.MaxDepth (f.Values.drop i) ≠ 0 then Qan l.MaxDepth (f.Values.drop i) else if l.MaxPacket < (Qar f : Int) then 4 else 0)
 | 0, i, _, h, _ => by omega
 | n + 1, i, hi, hn, hv => by
  simp only [U0, Q6, Y6, Wy, Qn, Za]
  have hfl := hf.len
  by_cases h : i < f.Values.length
  ·have hx := List.getElem_mem h
   obtain ⟨h1, h2, h3⟩ := hf.one _ hx
   rw [if_pos (by omega), List.getElem?_eq_getElem h]
   simp only [Option.bind_some]
   rw [Qdq N _ _ h1 (by omega) (by omega)]
   simp only [Option.bind_some]
   rw [List.drop_eq_getElem_cons h]
   by_cases hc : Vf f.Values[i] l.MaxDepth = 0
   ·rw [if_neg (by simp [hc]), Qan, if_neg (show ¬ (Vf f.Values[i] l.MaxDepth ≠ 0) by simp [hc]), Qh _ (by omega)]
    exact_mod_cast Qfo hN hf he n (i + 1) (by omega) (by omega) (fun x hx => by
     rw [List.take_succ_eq_append_getElem h] at hx
     rcases List.mem_append.1 hx with hx | hx
     ·exact hv x hx
     ·have : x = f.Values[i] := by simpa using hx
      subst this; exact hc)
   ·rw [if_pos hc, Qan, if_pos (show Vf f.Values[i] l.MaxDepth ≠ 0 from hc), if_pos hc]
  ·rw [if_neg (by omega), List.drop_of_length_le (by omega)]
   rw [List.take_of_length_le (by omega)] at hv
   have := Qg1 hN (l := l) hf he hv N 0 (by omega) (by omega)
   simp only [List.take_zero] at this
   rw [Qh _ (by omega), show (8 + (f.Ext.length : Int)) = ((8 + f.Ext.length + (Q1o ([] : List Q0)).length : Nat) : Int) by simp [Q1o], show (0 : Int) = ((0 : Nat) : Int) from rfl, this]
   rfl
theorem Qz3 (n : Nat) : ((n : Int)).tmod 4 = ((n % 4 : Nat) : Int) := by
 rw [Int.tmod_eq_emod_of_nonneg (by omega)]; omega
theorem Qfd {N : Nat} (hN : N = 800000000) (f : Qf) (l : Qw) (hf : FB f) : G2 N f l = some (Q6s f l) := by
 simp only [G2, Qaz, Qmh, Option.bind_some, Q6, Y6, Q2c, Wy, Qn, Qz3, Q6s]
 cases hr : Q5m l with
 | false => rfl
 | true =>
  simp only [Bool.not_true, Bool.false_eq_true, if_false, Bool.true_eq_false]
  by_cases ht : f.Type' = 0 ∨ f.Type' = 1
  ·rw [decide_eq_true ht]
   simp only [Bool.not_true, Bool.false_eq_true, if_false, ht, not_true_eq_false]
   cases ho : Qgq f with
   | false =>
    simp only [if_true]
    unfold Qgq at ho
    rw [decide_eq_false_iff_not] at ho
    repeat' split
    all_goals first | rfl | (exfalso; apply ho; omega)
   | true =>
    unfold Qgq at ho
    rw [decide_eq_true_eq] at ho
    simp only [Bool.true_eq_false, if_false]
    rw [if_neg (by omega), if_neg (by omega), if_neg (by omega), if_neg (by omega)]
    by_cases h1 : 1000 < f.Values.length
    ·rw [if_pos (by omega), if_pos h1]
    ·rw [if_neg (by omega), if_neg h1]
     have := Qfo hN (l := l) hf ho.2.2.1 N 0 (by omega) (by have := hf.len; omega) (by simp)
     rw [List.drop_zero] at this
     exact this
  ·rw [decide_eq_false ht]
   simp only [Bool.not_false, if_true, ht, not_false_eq_true]
theorem Qjp {f : Qf} {l : Qw} (h : Q6s f l = 0) : Q5m l = true ∧ (f.Type' = 0 ∨ f.Type' = 1) ∧ Qgq f = true ∧ f.Values.length ≤ 1000 ∧ (∀ x ∈ f.Values, Vf x l.MaxDepth = 0) ∧ (Qar f : Int) ≤ l.MaxPacket := by
 unfold Q6s at h
 split at h
 ·cases h
 rename_i h1
 split at h
 ·cases h
 rename_i h2
 split at h
 ·cases h
 rename_i h3
 split at h
 ·cases h
 rename_i h4
 split at h
 ·rename_i h5; exact absurd h h5
 rename_i h5
 split at h
 ·cases h
 rename_i h6
 exact ⟨by simpa using h1, Classical.byContradiction h2, by simpa using h3, by omega, Qj3 (Classical.byContradiction h5), by omega⟩
theorem Qnc {f : Qf} (h : Qgq f = true) : 0 ≤ f.Channel ∧ f.Channel ≤ 65535 ∧ f.Ext.length ≤ 1012 ∧ f.Ext.length % 4 = 0 := by simpa [Qgq] using h
theorem Qnu (n : Nat) : Q05 n 1 = [UInt8.ofNat (n % 256)] := by
 rw [Q7z]
 simp [Q05]
theorem Qsj (s : List UInt8) : (s.map fun b => (b.toNat : Int)) = Q09 s := rfl
theorem Qik (n : Nat) : UInt8.ofNat (n % 256) = UInt8.ofNat n := by
 apply UInt8.toNat_inj.1
 rw [UInt8.toNat_ofNat', UInt8.toNat_ofNat']
 omega
theorem Qty {N : Nat} (hN : N = 800000000) (f : Qf) (ht : f.Type' = 0 ∨ f.Type' = 1) (ho : Qgq f = true) : Vs N ⟨⟨[]⟩, f⟩ = some ((), ⟨⟨Q09 (Q05 0 4 ++ Q7i f)⟩, f⟩) := by
 obtain ⟨o1, o2, o3, o4⟩ := Qnc ho
 have p0 := Q7l N 0 4 (by omega) (by omega) (by omega)
 have p1 := Q7l N (2 + f.Ext.length / 4) 1 (by omega) (by omega) (by omega)
 have p2 := Q7l N f.Type'.toNat 1 (by omega) (by omega) (by omega)
 have p3 := Q7l N f.Channel.toNat 2 (by omega) (by omega) (by omega)
 have e0 : IntKind.u64.wrap 0 = ((0 : Nat) : Int) := rfl
 have e1 : IntKind.u64.wrap (IntKind.i64.wrap (2 + IntKind.i64.wrap (((f.Ext.length : Int)).tdiv 4))) = ((2 + f.Ext.length / 4 : Nat) : Int) := by
  have : ((f.Ext.length : Int)).tdiv 4 = ((f.Ext.length / 4 : Nat) : Int) := by
   rw [Int.tdiv_eq_ediv_of_nonneg (by omega)]; omega
  rw [this, Qh ((f.Ext.length / 4 : Nat) : Int) (by omega), Qh _ (by omega), show (2 + ((f.Ext.length / 4 : Nat) : Int)) = ((2 + f.Ext.length / 4 : Nat) : Int) by push_cast; rfl, U5 _ (by omega)]
 have e2 : IntKind.u64.wrap f.Type' = ((f.Type'.toNat : Nat) : Int) := by
  have h : ((f.Type'.toNat : Nat) : Int) = f.Type' := by omega
  have h2 := U5 f.Type'.toNat (by omega)
  rw [h] at h2 ⊢; exact h2
 have e3 : IntKind.u64.wrap f.Channel = ((f.Channel.toNat : Nat) : Int) := by
  have h : ((f.Channel.toNat : Nat) : Int) = f.Channel := by omega
  have h2 := U5 f.Channel.toNat (by omega)
  rw [h] at h2 ⊢; exact h2
 rw [show ((4 : Nat) : Int) = 4 from rfl] at p0
 rw [show ((1 : Nat) : Int) = 1 from rfl] at p1 p2
 rw [show ((2 : Nat) : Int) = 2 from rfl] at p3
 simp only [Vs, e0, e1, e2, e3, p0, p1, p2, p3, Option.bind_some, Q6, Yk, Qsj, List.nil_append, List.length_nil]
 have hb1 : Q3z ((2 + f.Ext.length / 4 : Nat) : Int) = UInt8.ofNat (2 + f.Ext.length / 4) := rfl
 have hb2 : Q3z f.Type' = UInt8.ofNat f.Type'.toNat := rfl
 have hh : Q09 (Q05 0 4) ++ Q09 (Q05 (2 + f.Ext.length / 4) 1) ++ Q09 (Q05 f.Type'.toNat 1) ++ Q09 (Q05 f.Channel.toNat 2) ++ Q09 f.Ext = Q09 (Q05 0 4 ++ Q7i f) := by
  rw [← Q0q, ← Q0q, ← Q0q, ← Q0q]
  congr 1
  unfold Q7i
  rw [Qnu, Qnu, Qik, Qik, hb1, hb2]
  simp
 rw [if_pos (by decide), if_pos (by decide), if_pos (by decide), if_pos (by decide), if_pos (by decide), if_pos (by decide), if_pos (by decide), if_pos (by decide)]
 by_cases h0 : f.Ext.length = 0
 ·rw [if_pos (by simp [h0])]
  have : f.Ext = [] := List.length_eq_zero_iff.1 h0
  rw [← hh, this]
  simp [Q09]
 ·rw [if_neg (by simp [h0]), if_pos (by rw [Nat.ble_eq]; omega), hh]
theorem Quo {N : Nat} (hN : N = 800000000) (b : List UInt8) (f : Qf) (h : 4 ≤ b.length) (hb : b.length < 9223372036854775808) : Vr N ⟨⟨Q09 b⟩, f⟩ = some ((), ⟨⟨Q09 (Q05 b.length 4 ++ b.drop 4)⟩, f⟩) := by
 have p0 := Q7l N b.length 4 (by omega) (by omega) (by omega)
 rw [show ((4 : Nat) : Int) = 4 from rfl] at p0
 simp only [Vr, Q18]
 rw [U5 _ (by omega), p0]
 simp only [Option.bind_some, Q6, Qsj]
 rw [if_pos (by rw [Nat.ble_eq]; omega)]
 have h1 : (Q09 (Q05 b.length 4)).take b.length = Q09 (Q05 b.length 4) := List.take_of_length_le (by rw [Q18, Yk]; omega)
 rw [h1, Q18, Yk]
 have h2 : (Q09 b).drop 4 = Q09 (b.drop 4) := by unfold Q09; rw [List.map_drop]
 rw [h2, ← Q0q]
theorem Qem {f : Qf} : (Q7i f).length = 4 + f.Ext.length := by
 unfold Q7i; simp [Yk]; omega
theorem Qg5 {N : Nat} (hN : N = 800000000) {f : Qf} {l : Qw} {u : Unit × Yu} (hf : FB f) (ho : Qgq f = true) (hu : u.2.f = f) (hv : ∀ x ∈ f.Values, Vf x l.MaxDepth = 0) : ∀ (n i : Nat), i ≤ f.Values.length → f.Values.length - i < n →
  Wx N f l u n (i : Int) (Q09 (Q05 0 4 ++ (Q7i f ++ Q1o (f.Values.take i)))) = some (Qjq f, 0)
 | 0, i, _, h => by omega
 | n + 1, i, hi, hn => by
  obtain ⟨o1, o2, o3, o4⟩ := Qnc ho
  simp only [Wx, Q6, Y6, Qn, Za]
  have hbl := Qed f.Values
  have hw := hf.wgt
  have hfl := hf.len
  have hhl := @Qem f
  by_cases h : i < f.Values.length
  ·have hx := List.getElem_mem h
   obtain ⟨h1, h2, h3⟩ := hf.one _ hx
   have ht := Qbe f.Values i h
   have hle := Qgu f.Values (i + 1)
   rw [← ht, List.length_append] at hle
   rw [if_pos (by omega), List.getElem?_eq_getElem h]
   simp only [Option.bind_some]
   rw [Qu4 N _ _ h1 h3 (by omega) (by omega), if_neg (show ¬ (Vf f.Values[i] l.MaxDepth ≠ 0) by simp [hv _ hx])]
   simp only [Option.bind_some, Qsj]
   have ih := Qg5 hN (u := u) hf ho hu hv n (i + 1) (by omega) (by omega)
   have e : Q09 (Q05 0 4 ++ (Q7i f ++ Q1o (f.Values.take i))) ++ Q09 f.Values[i].nrm.byt = Q09 (Q05 0 4 ++ (Q7i f ++ Q1o (f.Values.take (i + 1)))) := by
    rw [← Q0q, ← ht]; simp
   rw [Qh _ (by omega)]
   by_cases h0 : f.Values[i].nrm.byt.length = 0
   ·rw [if_pos (by simp [h0])]
    have : f.Values[i].nrm.byt = [] := List.length_eq_zero_iff.1 h0
    rw [this] at e
    have e' : Q09 (Q05 0 4 ++ (Q7i f ++ Q1o (f.Values.take i))) = Q09 (Q05 0 4 ++ (Q7i f ++ Q1o (f.Values.take (i + 1)))) := by rw [← e]; simp [Q09]
    rw [e']
    exact_mod_cast ih
   ·rw [if_neg (by simp [h0]), if_pos (by rw [Nat.ble_eq, Q18]; simp only [List.length_append, Yk]; omega), e]
    exact_mod_cast ih
  ·rw [if_neg (by omega), List.take_of_length_le (by omega), hu, Quo hN _ f (by simp [Yk]) (by simp only [List.length_append, Yk]; omega)]
   simp only [Option.bind_some, Qj6]
   have hlen : (Q05 0 4 ++ (Q7i f ++ Q1o f.Values)).length = Qar f := by
    unfold Qar; simp only [List.length_append, Yk]; omega
   rw [hlen, List.drop_left' (Yk 4 0)]
   rfl
theorem Qo2 {N : Nat} (hN : N = 800000000) (f : Qf) (l : Qw) (hf : FB f) : Jw N f l = some (if Q6s f l ≠ 0 then ([], Q6s f l) else (Qjq f, 0)) := by
 simp only [Jw, Qfd hN f l hf, Option.bind_some, Q6, Wy]
 by_cases h : Q6s f l = 0
 ·obtain ⟨c1, c2, c3, c4, c5, c6⟩ := Qjp h
  rw [if_neg (by simp [h]), if_neg (by simp [h]), Qty hN f c2 c3]
  simp only [Option.bind_some]
  have := Qg5 hN (l := l) (u := ((), ⟨⟨Q09 (Q05 0 4 ++ Q7i f)⟩, f⟩)) hf c3 rfl c5 N 0 (by omega) (by have := hf.len; omega)
  simp only [List.take_zero, Q1o, List.map_nil, List.flatten_nil, List.append_nil, Int.natCast_zero] at this
  simp only [this]
 ·rw [if_pos h, if_pos h]
end
end Go.Av
namespace Go.Av
noncomputable section
open Go.Proofs
set_option maxRecDepth 100000
theorem Qaf {N : Nat} (hN : N = 800000000) {f : Qf} {m : Int} (hf : FB f) (ht : f.Type' = 0 ∨ f.Type' = 1) (ho : Qgq f = true) (hv : ∀ x ∈ f.Values, Vf x m = 0) : ∀ (n i : Nat), i ≤ f.Values.length → f.Values.length - i < n →
  Xf N f m n (Q1o (f.Values.take i)) (i : Int) = some (Qjq f)
 | 0, i, _, h => by omega
 | n + 1, i, hi, hn => by
  obtain ⟨o1, o2, o3, o4⟩ := Qnc ho
  simp only [Xf, Q6, Y6, Qn, Za]
  have hbl := Qed f.Values
  have hw := hf.wgt
  have hfl := hf.len
  by_cases h : i < f.Values.length
  ·have hx := List.getElem_mem h
   obtain ⟨h1, h2, h3⟩ := hf.one _ hx
   have htk := Qbe f.Values i h
   have hle := Qgu f.Values (i + 1)
   rw [← htk, List.length_append] at hle
   rw [if_pos (by omega), List.getElem?_eq_getElem h]
   simp only [Option.bind_some]
   rw [Qle N _ _ h1 h3 (by omega) (by omega), if_neg (show ¬ (Vf f.Values[i] m ≠ 0) by simp [hv _ hx])]
   simp only [Option.bind_some]
   rw [if_pos (by simp only [Nat.ble_eq]; omega), Qh _ (by omega), htk]
   exact_mod_cast Qaf hN hf ht ho hv n (i + 1) (by omega) (by omega)
  ·rw [if_neg (by omega), List.take_of_length_le (by omega)]
   have e3 : IntKind.u64.wrap f.Channel = ((f.Channel.toNat : Nat) : Int) := by
    have h : ((f.Channel.toNat : Nat) : Int) = f.Channel := by omega
    have h2 := U5 f.Channel.toNat (by omega)
    rw [h] at h2 ⊢; exact h2
   have p3 := Qg6 N f.Channel.toNat 2 (by omega) (by omega) (by omega)
   have p4 := Qg6 N (Qar f) 4 (by unfold Qar; omega) (by omega) (by omega)
   rw [show ((2 : Nat) : Int) = 2 from rfl] at p3
   rw [show ((4 : Nat) : Int) = 4 from rfl] at p4
   have e1 : UInt8.ofNat (IntKind.u8.wrap (IntKind.i64.wrap (2 + IntKind.i64.wrap (((f.Ext.length : Int)).tdiv 4)))).toNat = Q3z (2 + f.Ext.length / 4 : Nat) := by
    have : ((f.Ext.length : Int)).tdiv 4 = ((f.Ext.length / 4 : Nat) : Int) := by
     rw [Int.tdiv_eq_ediv_of_nonneg (by omega)]; omega
    rw [this, Qh ((f.Ext.length / 4 : Nat) : Int) (by omega), Qh _ (by omega), Q81 (by omega)]; rfl
   have e2 : UInt8.ofNat (IntKind.u8.wrap f.Type').toNat = Q3z f.Type' := Q81 (by omega)
   rw [e3, e1, e2, p3]
   simp only [Option.bind_some]
   have hh : ([Q3z (2 + f.Ext.length / 4 : Nat), Q3z f.Type'] ++ Q05 f.Channel.toNat 2) ++ f.Ext = Q7i f := rfl
   have hl2 : ([Q3z (2 + f.Ext.length / 4 : Nat), Q3z f.Type'] ++ Q05 f.Channel.toNat 2).length = 4 := by simp [Yk]
   rw [hh]
   have hhl := @Qem f
   have e5 : IntKind.u64.wrap (IntKind.i64.wrap (IntKind.i64.wrap (((Q7i f).length : Int) + 4) + ((Q1o f.Values).length : Int))) = ((Qar f : Nat) : Int) := by
    rw [Qh (((Q7i f).length : Int) + 4) (by omega), Qh _ (by omega), show ((Q7i f).length : Int) + 4 + ((Q1o f.Values).length : Int) = ((Qar f : Nat) : Int) by unfold Qar; omega, U5 _ (by unfold Qar; omega)]
   rw [e5, p4]
   simp only [Option.bind_some]
   rw [if_pos (by simp [Nat.ble_eq, Yk]), if_pos (by simp only [Nat.ble_eq, hl2]; omega), if_pos (by simp only [Nat.ble_eq, Yk]; omega), if_pos (by simp only [Nat.ble_eq, List.length_append, Yk]; omega)]
   simp only [Qjq, List.append_assoc]
theorem Q5z {N : Nat} (hN : N = 800000000) {f : Qf} {m : Int} (hf : FB f) (ht : f.Type' = 0 ∨ f.Type' = 1) (ho : Qgq f = true) (hv : ∀ x ∈ f.Values, Vf x m = 0) : Xu N f m = some (Qjq f) := by
 have := Qaf hN hf ht ho hv N 0 (by omega) (by have := hf.len; omega)
 simp only [List.take_zero, Int.natCast_zero, Q1o, List.map_nil, List.flatten_nil] at this
 simpa only [Xu] using this
theorem Qm4 {f : Qf} : (Qjq f).length = Qar f := by
 have := @Qem f
 unfold Qjq Qar; simp only [List.length_append, Yk]; omega
theorem Qaa {N : Nat} (hN : N = 800000000) {f : Qf} {l : Qw} (hf : FB f) (ht : f.Type' = 0 ∨ f.Type' = 1) (ho : Qgq f = true) : ∀ (n i : Nat), i ≤ f.Values.length → f.Values.length - i < n → (∀ x ∈ f.Values.take i, Vf x l.MaxDepth = 0) →
  Yh N f l n (i : Int) = some (if Qan l.MaxDepth (f.Values.drop i) ≠ 0 then Qan l.MaxDepth (f.Values.drop i) else if l.MaxPacket < (Qar f : Int) then 4 else 0)
 | 0, i, _, h, _ => by omega
 | n + 1, i, hi, hn, hv => by
  simp only [Yh, Q6, Y6, Q2c, Wy, Qn, Za]
  have hfl := hf.len
  by_cases h : i < f.Values.length
  ·have hx := List.getElem_mem h
   obtain ⟨h1, h2, h3⟩ := hf.one _ hx
   rw [if_pos (by omega), List.getElem?_eq_getElem h]
   simp only [Option.bind_some]
   rw [Q7h N _ _ h1 (by omega) (by omega)]
   simp only [Option.bind_some]
   rw [List.drop_eq_getElem_cons h]
   by_cases hc : Vf f.Values[i] l.MaxDepth = 0
   ·rw [if_neg (by simp [hc]), Qan, if_neg (show ¬ (Vf f.Values[i] l.MaxDepth ≠ 0) by simp [hc]), Qh _ (by omega)]
    exact_mod_cast Qaa hN (l := l) hf ht ho n (i + 1) (by omega) (by omega) (fun x hx => by
     rw [List.take_succ_eq_append_getElem h] at hx
     rcases List.mem_append.1 hx with hx | hx
     ·exact hv x hx
     ·have : x = f.Values[i] := by simpa using hx
      subst this; exact hc)
   ·rw [if_pos hc, Qan, if_pos (show Vf f.Values[i] l.MaxDepth ≠ 0 from hc), if_pos hc]
  ·rw [if_neg (by omega), List.drop_of_length_le (by omega)]
   rw [List.take_of_length_le (by omega)] at hv
   rw [Q5z hN hf ht ho hv]
   simp only [Option.bind_some, Qm4]
   by_cases h4 : l.MaxPacket < (Qar f : Int)
   ·rw [if_pos (show (Qar f : Int) > l.MaxPacket from h4), if_neg (show ¬ (Qan l.MaxDepth [] ≠ 0) from fun h => h rfl), if_pos h4]
   ·rw [if_neg (show ¬ ((Qar f : Int) > l.MaxPacket) from h4), if_neg (show ¬ (Qan l.MaxDepth [] ≠ 0) from fun h => h rfl), if_neg h4]
theorem Qaq {N : Nat} (hN : N = 800000000) {f : Qf} {l : Qw} (hf : FB f) (ht : f.Type' = 0 ∨ f.Type' = 1) (ho : Qgq f = true) : ∀ (n i : Nat), i ≤ f.Values.length → f.Values.length - i < n → (∀ x ∈ f.Values.take i, Vf x l.MaxDepth = 0) →
  Yf N f l n (i : Int) = some (if Qan l.MaxDepth (f.Values.drop i) ≠ 0 then Qan l.MaxDepth (f.Values.drop i) else if l.MaxPacket < (Qar f : Int) then 4 else 0)
 | 0, i, _, h, _ => by omega
 | n + 1, i, hi, hn, hv => by
  simp only [Yf, Q6, Y6, Q2c, Wy, Qn, Za]
  have hfl := hf.len
  by_cases h : i < f.Values.length
  ·have hx := List.getElem_mem h
   obtain ⟨h1, h2, h3⟩ := hf.one _ hx
   rw [if_pos (by omega), List.getElem?_eq_getElem h]
   simp only [Option.bind_some]
   rw [Q7h N _ _ h1 (by omega) (by omega)]
   simp only [Option.bind_some]
   rw [List.drop_eq_getElem_cons h]
   by_cases hc : Vf f.Values[i] l.MaxDepth = 0
   ·rw [if_neg (by simp [hc]), Qan, if_neg (show ¬ (Vf f.Values[i] l.MaxDepth ≠ 0) by simp [hc]), Qh _ (by omega)]
    exact_mod_cast Qaq hN (l := l) hf ht ho n (i + 1) (by omega) (by omega) (fun x hx => by
     rw [List.take_succ_eq_append_getElem h] at hx
     rcases List.mem_append.1 hx with hx | hx
     ·exact hv x hx
     ·have : x = f.Values[i] := by simpa using hx
      subst this; exact hc)
   ·rw [if_pos hc, Qan, if_pos (show Vf f.Values[i] l.MaxDepth ≠ 0 from hc), if_pos hc]
  ·rw [if_neg (by omega), List.drop_of_length_le (by omega)]
   rw [List.take_of_length_le (by omega)] at hv
   rw [Q5z hN hf ht ho hv]
   simp only [Option.bind_some, Qm4]
   by_cases h4 : l.MaxPacket < (Qar f : Int)
   ·rw [if_pos (show (Qar f : Int) > l.MaxPacket from h4), if_neg (show ¬ (Qan l.MaxDepth [] ≠ 0) from fun h => h rfl), if_pos h4]
   ·rw [if_neg (show ¬ ((Qar f : Int) > l.MaxPacket) from h4), if_neg (show ¬ (Qan l.MaxDepth [] ≠ 0) from fun h => h rfl), if_neg h4]
theorem Q9l {N : Nat} (hN : N = 800000000) (f : Qf) (l : Qw) (hf : FB f) : V7 N f l = some (Q6s f l) := by
 simp only [V7, Qa0, Option.bind_some, Q6, Y6, Q2c, Wy, Qn, Qz3, Q6s]
 cases hr : Q5m l with
 | false => rfl
 | true =>
  simp only [Bool.not_true, Bool.false_eq_true, if_false, Bool.true_eq_false]
  by_cases ht : f.Type' = 0 ∨ f.Type' = 1
  ·simp only [ht, not_true_eq_false, if_false]
   have key : ∀ X Y : Option Int, (Qgq f = true → f.Values.length ≤ 1000 → X = Y) → (if f.Channel < 0 then some 2 else if f.Channel > 65535 then some 2 else if ((f.Ext.length % 4 : Nat) : Int) ≠ 0 then some 2 else if (f.Ext.length : Int) > 1012 then some 2 else if (f.Values.length : Int) > 1000 then some 4 else X) = (if Qgq f = false then some 2 else if 1000 < f.Values.length then some 4 else Y) := by
    intro X Y hXY
    cases ho : Qgq f with
    | false =>
     simp only [if_true]
     unfold Qgq at ho
     rw [decide_eq_false_iff_not] at ho
     repeat' split
     all_goals first | rfl | (exfalso; apply ho; omega)
    | true =>
     obtain ⟨o1, o2, o3, o4⟩ := Qnc ho
     simp only [Bool.true_eq_false, if_false]
     rw [if_neg (by omega), if_neg (by omega), if_neg (by omega), if_neg (by omega)]
     by_cases h1 : 1000 < f.Values.length
     ·rw [if_pos (by omega), if_pos h1]
     ·rw [if_neg (by omega), if_neg h1]
      exact hXY ho (by omega)
   have hfl := hf.len
   have e1 := key (Yh N f l N 0) (some (if Qan l.MaxDepth f.Values ≠ 0 then Qan l.MaxDepth f.Values else if l.MaxPacket < (Qar f : Int) then 4 else 0)) (fun ho _ => by
    have := Qaa hN (l := l) hf ht ho N 0 (by omega) (by omega) (by simp)
    rw [List.drop_zero] at this
    exact_mod_cast this)
   have e2 := key (Yf N f l N 0) (some (if Qan l.MaxDepth f.Values ≠ 0 then Qan l.MaxDepth f.Values else if l.MaxPacket < (Qar f : Int) then 4 else 0)) (fun ho _ => by
    have := Qaq hN (l := l) hf ht ho N 0 (by omega) (by omega) (by simp)
    rw [List.drop_zero] at this
    exact_mod_cast this)
   rw [e1, e2]
   have fin : (if Qgq f = false then some 2 else if 1000 < f.Values.length then some 4 else some (if Qan l.MaxDepth f.Values ≠ 0 then Qan l.MaxDepth f.Values else if l.MaxPacket < (Qar f : Int) then 4 else 0)) = some (if Qgq f = false then (2 : Int) else if 1000 < f.Values.length then 4 else if Qan l.MaxDepth f.Values ≠ 0 then Qan l.MaxDepth f.Values else if l.MaxPacket < (Qar f : Int) then 4 else 0) := by
    split
    ·rfl
    ·split <;> rfl
   rw [fin]
   rcases ht with ht | ht
   ·rw [if_neg (by simp [ht])]
   ·rw [if_pos (by omega), if_neg (by simp [ht])]
  ·simp only [ht, not_false_eq_true, if_true]
   rw [if_pos (by omega), if_pos (by omega)]
theorem Qh6 {N : Nat} (hN : N = 800000000) (f : Qf) (l : Qw) (hf : FB f) : Ub N f l = some (if Q6s f l ≠ 0 then ([], Q6s f l) else (Qjq f, 0)) := by
 simp only [Ub, Q9l hN f l hf, Option.bind_some, Q6, Wy]
 by_cases h : Q6s f l = 0
 ·obtain ⟨c1, c2, c3, c4, c5, c6⟩ := Qjp h
  rw [if_neg (by simp [h]), if_neg (by simp [h]), Q5z hN hf c2 c3 c5]; rfl
 ·rw [if_pos h, if_pos h]
def Qf.nrm (f : Qf) : Qf := ⟨f.Type', f.Channel, f.Ext, f.Values.map Q0.nrm⟩
theorem Qii {N : Nat} (hN : N = 800000000) {f : Qf} (hf : FB f) : ∀ (n i : Nat), i ≤ f.Values.length → f.Values.length - i < n → Us N f n (i : Int) ((f.Values.take i).map Q0.nrm) = some f.nrm
 | 0, i, _, h => by omega
 | n + 1, i, hi, hn => by
  have hfl := hf.len
  simp only [Us, Q6, Y6, Qn, Za]
  by_cases h : i < f.Values.length
  ·obtain ⟨h1, h2, h3⟩ := hf.one _ (List.getElem_mem h)
   rw [if_pos (by omega), List.getElem?_eq_getElem h]
   simp only [Option.bind_some]
   rw [Qgt N _ (by omega) (by omega)]
   simp only [Option.bind_some]
   rw [if_pos (by rw [Nat.ble_eq, List.length_map, List.length_take]; omega), Qh _ (by omega)]
   have e : (f.Values.take i).map Q0.nrm ++ [f.Values[i].nrm] = (f.Values.take (i + 1)).map Q0.nrm := by
    rw [List.take_succ_eq_append_getElem h, List.map_append]; rfl
   rw [e]
   exact_mod_cast Qii hN hf n (i + 1) (by omega) (by omega)
  ·rw [if_neg (by omega), List.take_of_length_le (by omega)]; rfl
theorem Qr1 {N : Nat} (hN : N = 800000000) (f : Qf) (hf : FB f) : Q0l N f = some f.nrm := by
 have := Qii hN hf N 0 (by omega) (by have := hf.len; omega)
 simp only [List.take_zero, List.map_nil, Int.natCast_zero] at this
 simpa only [Q0l] using this
theorem Qbo {N : Nat} (hN : N = 800000000) {f : Qf} (hf : FB f) : ∀ (n i : Nat), i ≤ f.Values.length → f.Values.length - i < n → W0 N f n (i : Int) ((f.Values.take i).map Q0.nrm) = some f.nrm
 | 0, i, _, h => by omega
 | n + 1, i, hi, hn => by
  have hfl := hf.len
  simp only [W0, Q6, Y6, Qn, Za]
  by_cases h : i < f.Values.length
  ·obtain ⟨h1, h2, h3⟩ := hf.one _ (List.getElem_mem h)
   rw [if_pos (by omega), List.getElem?_eq_getElem h]
   simp only [Option.bind_some]
   rw [Qax N _ h1 (by omega) (by omega)]
   simp only [Option.bind_some]
   rw [if_pos (by rw [Nat.ble_eq, List.length_map, List.length_take]; omega), Qh _ (by omega)]
   have e : (f.Values.take i).map Q0.nrm ++ [f.Values[i].nrm] = (f.Values.take (i + 1)).map Q0.nrm := by
    rw [List.take_succ_eq_append_getElem h, List.map_append]; rfl
   rw [e]
   exact_mod_cast Qbo hN hf n (i + 1) (by omega) (by omega)
  ·rw [if_neg (by omega), List.take_of_length_le (by omega)]; rfl
theorem Qk8 {N : Nat} (hN : N = 800000000) (f : Qf) (hf : FB f) : Je N f = some f.nrm := by
 have := Qbo hN hf N 0 (by omega) (by have := hf.len; omega)
 simp only [List.take_zero, List.map_nil, Int.natCast_zero] at this
 simpa only [Je] using this
theorem Qf.ext' {a b : Qf} (h1 : a.Type' = b.Type') (h2 : a.Channel = b.Channel) (h3 : a.Ext = b.Ext) (h4 : a.Values = b.Values) : a = b := by cases a; cases b; simp_all
noncomputable instance : DecidableEq Qf := fun a b => decidable_of_iff (a.Type' = b.Type' ∧ a.Channel = b.Channel ∧ a.Ext = b.Ext ∧ a.Values = b.Values) ⟨fun h => Qf.ext' h.1 h.2.1 h.2.2.1 h.2.2.2, fun h => by rw [h]; exact ⟨rfl, rfl, rfl, rfl⟩⟩
theorem Qht (l m : List Q0) (i : Nat) (h : i < l.length) (h' : i < m.length) : decide (l.drop i = m.drop i) = (decide (l[i] = m[i]) && decide (l.drop (i + 1) = m.drop (i + 1))) := by
 rw [List.drop_eq_getElem_cons h, List.drop_eq_getElem_cons h', Bool.eq_iff_iff]
 simp only [decide_eq_true_eq, Bool.and_eq_true, List.cons.injEq]
theorem Qji {N : Nat} (hN : N = 800000000) {a b : Qf} (ha : Q0.szs a.Values < 700000000) (hl : a.Values.length = b.Values.length) : ∀ (n i : Nat), i ≤ a.Values.length → a.Values.length - i < n → Wj N a b n (i : Int) = some (decide (a.Values.drop i = b.Values.drop i))
 | 0, i, _, h => by omega
 | n + 1, i, hi, hn => by
  have hs := Q0.szs_len a.Values
  simp only [Wj, Q6, Y6, Qn, Za]
  by_cases h : i < a.Values.length
  ·have h' : i < b.Values.length := by omega
   have hx := Q0.szs_mem _ _ (List.getElem_mem h)
   rw [if_pos (by omega), List.getElem?_eq_getElem h, List.getElem?_eq_getElem h']
   simp only [Option.bind_some]
   rw [Qr4 N _ _ (by omega) (by omega), Qht _ _ i h h']
   simp only [Option.bind_some]
   rw [Qh _ (by omega)]
   have ih := Qji hN ha hl n (i + 1) (by omega) (by omega)
   have ih : Wj N a b n ((i : Int) + 1) = some (decide (a.Values.drop (i + 1) = b.Values.drop (i + 1))) := by exact_mod_cast ih
   rw [ih]
   cases decide (a.Values[i] = b.Values[i]) <;> rfl
  ·rw [if_neg (by omega), List.drop_of_length_le (by omega), List.drop_of_length_le (by omega)]; rfl
theorem Qs2 {N : Nat} (hN : N = 800000000) (a b : Qf) (ha : Q0.szs a.Values < 700000000) : Q0j N a b = some (decide (a = b)) := by
 have hs := Q0.szs_len a.Values
 simp only [Q0j, Q6, Wy, G4, Qn]
 by_cases h1 : a.Type' = b.Type'
 ·rw [if_neg (by simp [h1])]
  by_cases h2 : a.Channel = b.Channel
  ·rw [if_neg (by simp [h2])]
   by_cases h3 : a.Ext = b.Ext
   ·rw [if_neg (by simp [h3])]
    by_cases h4 : a.Values.length = b.Values.length
    ·rw [if_neg (by simp [h4])]
     have := Qji hN ha h4 N 0 (by omega) (by omega)
     rw [List.drop_zero, List.drop_zero] at this
     have : Wj N a b N 0 = some (decide (a.Values = b.Values)) := by exact_mod_cast this
     rw [this]
     congr 1
     rw [Bool.eq_iff_iff]
     simp only [decide_eq_true_eq]
     exact ⟨fun h => Qf.ext' h1 h2 h3 h, fun h => by rw [h]⟩
    ·rw [if_pos (by omega), decide_eq_false (fun h => h4 (by rw [h]))]
   ·rw [if_pos h3, decide_eq_false (fun h => h3 (by rw [h]))]
  ·rw [if_pos h2, decide_eq_false (fun h => h2 (by rw [h]))]
 ·rw [if_pos h1, decide_eq_false (fun h => h1 (by rw [h]))]
theorem Qby {N : Nat} (hN : N = 800000000) {a b : Qf} (ha : Q0.szs a.Values < 700000000) (hl : a.Values.length = b.Values.length) : ∀ (n i : Nat), i ≤ a.Values.length → a.Values.length - i < n → Y0 N a b n (i : Int) = some (decide (a.Values.drop i = b.Values.drop i))
 | 0, i, _, h => by omega
 | n + 1, i, hi, hn => by
  have hs := Q0.szs_len a.Values
  simp only [Y0, Q6, Y6, Qn, Za]
  by_cases h : i < a.Values.length
  ·have h' : i < b.Values.length := by omega
   have hx := Q0.szs_mem _ _ (List.getElem_mem h)
   rw [if_pos (by omega), List.getElem?_eq_getElem h, List.getElem?_eq_getElem h']
   simp only [Option.bind_some]
   rw [Qg0 N _ _ (by omega) (by omega), Qht _ _ i h h']
   simp only [Option.bind_some]
   rw [Qh _ (by omega)]
   have ih := Qby hN ha hl n (i + 1) (by omega) (by omega)
   have ih : Y0 N a b n ((i : Int) + 1) = some (decide (a.Values.drop (i + 1) = b.Values.drop (i + 1))) := by exact_mod_cast ih
   rw [ih]
   cases decide (a.Values[i] = b.Values[i]) <;> rfl
  ·rw [if_neg (by omega), List.drop_of_length_le (by omega), List.drop_of_length_le (by omega)]; rfl
theorem Qkl {N : Nat} (hN : N = 800000000) (a b : Qf) (ha : Q0.szs a.Values < 700000000) : J8 N a b = some (decide (a = b)) := by
 have hs := Q0.szs_len a.Values
 simp only [J8, Q6, Wy, G4, Qn]
 by_cases h1 : a.Type' = b.Type'
 ·rw [if_neg (by simp [h1])]
  by_cases h2 : a.Channel = b.Channel
  ·rw [if_neg (by simp [h2])]
   by_cases h3 : a.Ext = b.Ext
   ·rw [if_neg (by simp [h3])]
    by_cases h4 : a.Values.length = b.Values.length
    ·rw [if_neg (by simp [h4])]
     have := Qby hN ha h4 N 0 (by omega) (by omega)
     rw [List.drop_zero, List.drop_zero] at this
     have : Y0 N a b N 0 = some (decide (a.Values = b.Values)) := by exact_mod_cast this
     rw [this]
     congr 1
     rw [Bool.eq_iff_iff]
     simp only [decide_eq_true_eq]
     exact ⟨fun h => Qf.ext' h1 h2 h3 h, fun h => by rw [h]⟩
    ·rw [if_pos (by omega), decide_eq_false (fun h => h4 (by rw [h]))]
   ·rw [if_pos h3, decide_eq_false (fun h => h3 (by rw [h]))]
  ·rw [if_pos h2, decide_eq_false (fun h => h2 (by rw [h]))]
 ·rw [if_pos h1, decide_eq_false (fun h => h1 (by rw [h]))]
theorem Qmp {N : Nat} (hN : N = 800000000) {a b : Qf} (ha : Q0.szs a.Values < 700000000) (hl : a.Values.length = b.Values.length) : ∀ (n i : Nat), i ≤ a.Values.length → a.Values.length - i < n → Zg N a b n (i : Int) = some (decide (a.Values.drop i = b.Values.drop i))
 | 0, i, _, h => by omega
 | n + 1, i, hi, hn => by
  have hs := Q0.szs_len a.Values
  simp only [Zg, Q6, Y6, Qn, Za]
  by_cases h : i < a.Values.length
  ·have h' : i < b.Values.length := by omega
   have hx := Q0.szs_mem _ _ (List.getElem_mem h)
   rw [if_pos (by omega), List.getElem?_eq_getElem h, List.getElem?_eq_getElem h']
   simp only [Option.bind_some]
   rw [Qbt N _ _ (by omega) (by omega), Qht _ _ i h h']
   simp only [Option.bind_some]
   rw [Qh _ (by omega)]
   have ih := Qmp hN ha hl n (i + 1) (by omega) (by omega)
   have ih : Zg N a b n ((i : Int) + 1) = some (decide (a.Values.drop (i + 1) = b.Values.drop (i + 1))) := by exact_mod_cast ih
   rw [ih]
   cases decide (a.Values[i] = b.Values[i]) <;> rfl
  ·rw [if_neg (by omega), List.drop_of_length_le (by omega), List.drop_of_length_le (by omega)]; rfl
theorem Qmv {N : Nat} (hN : N = 800000000) (a b : Qf) (ha : Q0.szs a.Values < 700000000) : W1 N a b = some (decide (a = b)) := by
 have hs := Q0.szs_len a.Values
 simp only [W1, Q6, Wy, G4, Qn]
 by_cases h1 : a.Type' = b.Type'
 ·rw [if_neg (by simp [h1])]
  by_cases h2 : a.Channel = b.Channel
  ·rw [if_neg (by simp [h2])]
   by_cases h3 : a.Ext = b.Ext
   ·rw [if_neg (by simp [h3])]
    by_cases h4 : a.Values.length = b.Values.length
    ·rw [if_neg (by simp [h4])]
     have := Qmp hN ha h4 N 0 (by omega) (by omega)
     rw [List.drop_zero, List.drop_zero] at this
     have : Zg N a b N 0 = some (decide (a.Values = b.Values)) := by exact_mod_cast this
     rw [this]
     congr 1
     rw [Bool.eq_iff_iff]
     simp only [decide_eq_true_eq]
     exact ⟨fun h => Qf.ext' h1 h2 h3 h, fun h => by rw [h]⟩
    ·rw [if_pos (by omega), decide_eq_false (fun h => h4 (by rw [h]))]
   ·rw [if_pos h3, decide_eq_false (fun h => h3 (by rw [h]))]
  ·rw [if_pos h2, decide_eq_false (fun h => h2 (by rw [h]))]
 ·rw [if_pos h1, decide_eq_false (fun h => h1 (by rw [h]))]
theorem Qkj {N : Nat} (hN : N = 800000000) {f : Qf} (hl : f.Values.length ≤ 6) : ∀ (n i : Nat), i ≤ f.Values.length → f.Values.length - i < n → ∃ b, Yi N f n (i : Int) = some b ∧ (b = true → ∀ x ∈ f.Values.drop i, x.sz ≤ 40 ∧ x.txt)
 | 0, i, _, h => by omega
 | n + 1, i, hi, hn => by
  simp only [Yi, Q6, Y6, Qn, Za]
  by_cases h : i < f.Values.length
  ·rw [if_pos (by omega), List.getElem?_eq_getElem h]
   obtain ⟨b1, l1, l2⟩ := Qpb N f.Values[i] (by omega)
   simp only [Option.bind_some, l1]
   cases b1 with
   | false => exact ⟨false, rfl, fun h => by cases h⟩
   | true =>
    rw [Qh _ (by omega)]
    obtain ⟨b, e1, e2⟩ := Qkj hN hl n (i + 1) (by omega) (by omega)
    refine ⟨b, ?_, fun hb x hx => ?_⟩
    ·simp only [Bool.not_true, Bool.false_eq_true, if_false]; exact_mod_cast e1
    ·rw [List.drop_eq_getElem_cons h] at hx
     rcases List.mem_cons.1 hx with rfl | hx
     ·exact l2 rfl
     ·exact e2 hb x hx
  ·rw [if_neg (by omega), List.drop_of_length_le (by omega)]
   exact ⟨true, rfl, fun _ x hx => by cases hx⟩
theorem Qee {N : Nat} (hN : N = 800000000) (f : Qf) : ∃ b, Xe N f = some b ∧ (b = true → f.Values.length ≤ 6 ∧ f.Ext.length ≤ 1100 ∧ ∀ x ∈ f.Values, x.sz ≤ 40 ∧ x.txt) := by
 simp only [Xe, Q6, Q2c, Qn]
 by_cases h1 : (f.Values.length : Int) > 6
 ·rw [if_pos h1]; exact ⟨false, rfl, fun h => by cases h⟩
 ·rw [if_neg h1]
  by_cases h2 : (f.Ext.length : Int) > 1100
  ·rw [if_pos h2]; exact ⟨false, rfl, fun h => by cases h⟩
  ·rw [if_neg h2]
   obtain ⟨b, e1, e2⟩ := Qkj hN (f := f) (by omega) N 0 (by omega) (by omega)
   refine ⟨b, by exact_mod_cast e1, fun hb => ⟨by omega, by omega, ?_⟩⟩
   have := e2 hb
   rwa [List.drop_zero] at this
theorem Qgd : ∀ (l : List Q0), (∀ x ∈ l, x.sz ≤ 40 ∧ x.txt) → Q0.szs l ≤ 40 * l.length ∧ Q0.wgts l ≤ 17200 * l.length
 | [], _ => by simp [Q0.szs, Q0.wgts]
 | x :: m, h => by
  have h1 := h x (.head _)
  have h2 := Qgd m (fun y hy => h y (.tail _ hy))
  have h3 := Qwr x h1.2
  simp only [Q0.szs, Q0.wgts, List.length_cons]; omega
theorem Qt7 {f : Qf} (hl : f.Values.length ≤ 6) (h : ∀ x ∈ f.Values, x.sz ≤ 40 ∧ x.txt) (hv : ∀ x ∈ f.Values, OkV x) : FB f := by
 obtain ⟨h1, h2⟩ := Qgd _ h
 exact ⟨fun x hx => Qxi x (hv x hx) (h x hx).2, by omega, by omega⟩
theorem Qrd {N : Nat} (hN : N = 800000000) {f : Qf} (hf : FB f) (hs : ∀ x ∈ f.Values, x.sz ≤ 40) : ∀ (n i : Nat), i ≤ f.Values.length → f.Values.length - i < n → X0 N f n (i : Int) (f.Values.take i) = some f
 | 0, i, _, h => by omega
 | n + 1, i, hi, hn => by
  have hfl := hf.len
  simp only [X0, Q6, Y6, Qn, Za]
  by_cases h : i < f.Values.length
  ·have h2 := hs _ (List.getElem_mem h)
   rw [if_pos (by omega), List.getElem?_eq_getElem h]
   simp only [Option.bind_some]
   rw [Qv9 N _ (by omega) (by omega)]
   simp only [Option.bind_some]
   rw [if_pos (by rw [Nat.ble_eq, List.length_take]; omega), Qh _ (by omega), ← List.take_succ_eq_append_getElem h]
   exact_mod_cast Qrd hN hf hs n (i + 1) (by omega) (by omega)
  ·rw [if_neg (by omega), List.take_of_length_le (by omega)]
theorem Qx2 {N : Nat} (hN : N = 800000000) (f : Qf) (hf : FB f) (hs : ∀ x ∈ f.Values, x.sz ≤ 40) : Vv N f = some f := by
 have := Qrd hN hf hs N 0 (by omega) (by have := hf.len; omega)
 simp only [List.take_zero, Int.natCast_zero] at this
 simpa only [Vv] using this
end
end Go.Av
namespace Go.Av
noncomputable section
open Go.Proofs
set_option maxRecDepth 100000
def Qkw : Qf := ⟨0, 0, [], []⟩
def Q8r (s : List UInt8) (l : Qw) : Int × Int :=
 if Q5m l = false then (0, 2) else if s.length < 8 then (0, 3) else if l.MaxPacket < (Q0o (s.take 4) : Int) then (0, 4)
 else if Q0o (s.take 4) < 8 ∨ (s.getD 4 0).toNat < 2 ∨ Q0o (s.take 4) < 4 * (s.getD 4 0).toNat then (0, 5)
 else if 1 < (s.getD 5 0).toNat then (0, 8) else ((Q0o (s.take 4) : Int), 0)
def Q55 (rd : List UInt8 → Rd) : Nat → List UInt8 → List Q0 → List Q0 × Int
 | 0, _, _ => ([], 0)
 | k + 1, s, acc => if s = [] then (acc, 0) else if acc.length = 1000 then ([], 4) else if (rd s).2.2 = 3 then ([], 5) else if (rd s).2.2 ≠ 0 then ([], (rd s).2.2) else Q55 rd k (s.drop (rd s).2.1.toNat) (acc ++ [(rd s).1])
def Qy5 (q : List Q0 × Int) (r : List Q0 → Qf × Int × Int) : Qf × Int × Int := if q.2 ≠ 0 then (Qkw, 0, q.2) else r q.1
theorem Qqs (l : List Q0) (r : List Q0 → Qf × Int × Int) : Qy5 (l, 0) r = r l := if_neg (fun h => h rfl)
theorem Q7y (l : List Q0) {e : Int} (h : e ≠ 0) (r : List Q0 → Qf × Int × Int) : Qy5 (l, e) r = (Qkw, 0, e) := if_pos h
def Qf5 (s : List UInt8) (n : Nat) : List UInt8 := (s.take n).drop (4 * (s.getD 4 0).toNat)
noncomputable def Qiy (s : List UInt8) (n : Nat) (m : Nat) : Qf × Int × Int :=
 Qy5 (Q55 (Zf (X7 m)) ((Qf5 s n).length + 1) (Qf5 s n) []) fun vs => (⟨((s.getD 5 0).toNat : Int), (Q0o ((s.take 8).drop 6) : Int), (s.take (4 * (s.getD 4 0).toNat)).drop 8, vs⟩, (n : Int), 0)
noncomputable def Qkc (s : List UInt8) (l : Qw) : Qf × Int × Int :=
 if (Q8r s l).2 ≠ 0 then (Qkw, 0, (Q8r s l).2) else if s.length < Q0o (s.take 4) then (Qkw, 0, 3) else Qiy s (Q0o (s.take 4)) l.MaxDepth.toNat
theorem Quj {s : List UInt8} (h : 8 ≤ s.length) : ∃ a0 a1 a2 a3 a4 a5 a6 a7 t, s = a0 :: a1 :: a2 :: a3 :: a4 :: a5 :: a6 :: a7 :: t := by
 match s, h with
 | a0 :: a1 :: a2 :: a3 :: a4 :: a5 :: a6 :: a7 :: t, _ => exact ⟨a0, a1, a2, a3, a4, a5, a6, a7, t, rfl⟩
theorem Quk (b : UInt8) : UInt8.ofNat ((b.toNat : Int)).toNat = b := by simp
theorem Qfq (b : UInt8) : IntKind.i64.wrap (b.toNat : Int) = ((b.toNat : Nat) : Int) := by
 have := b.toNat_lt
 rw [Qh _ (by omega)]
theorem Qzk (b : UInt8) : IntKind.u64.wrap (b.toNat : Int) = ((b.toNat : Nat) : Int) := by
 have := b.toNat_lt
 exact U5 _ (by omega)
theorem Qcj {l : Qw} (h : Q5m l = true) : 16 ≤ l.MaxPacket ∧ l.MaxPacket ≤ 1048576 ∧ 0 ≤ l.MaxDepth ∧ l.MaxDepth ≤ 32 := by simpa [Q5m] using h
theorem Z1t (a b c d : UInt8) : Q0o [a, b, c, d] < 4294967296 := by
 have := Q2g [a, b, c, d]
 simpa using this
theorem Z22 (a b : UInt8) : Q0o [a, b] < 65536 := by
 have := Q2g [a, b]
 simpa using this
theorem Qmw {s : List UInt8} {l : Qw} (h : (Q8r s l).2 = 0) : Q5m l = true ∧ 8 ≤ s.length ∧ (Q0o (s.take 4) : Int) ≤ l.MaxPacket ∧ 8 ≤ Q0o (s.take 4) ∧ 2 ≤ (s.getD 4 0).toNat ∧ 4 * (s.getD 4 0).toNat ≤ Q0o (s.take 4) ∧ (s.getD 5 0).toNat ≤ 1 ∧ Q8r s l = ((Q0o (s.take 4) : Int), 0) := by
 unfold Q8r at h ⊢
 split at h
 ·cases h
 rename_i h1; rw [if_neg h1]
 split at h
 ·cases h
 rename_i h2; rw [if_neg h2]
 split at h
 ·cases h
 rename_i h3; rw [if_neg h3]
 split at h
 ·cases h
 rename_i h4; rw [if_neg h4]
 split at h
 ·cases h
 rename_i h5; rw [if_neg h5]
 exact ⟨by simpa using h1, by omega, by omega, by omega, by omega, by omega, by omega, rfl⟩
theorem Qpq {N : Nat} (hN : N = 800000000) (s : List UInt8) (l : Qw) : Gm N s l = some (Q8r s l) := by
 simp only [Gm, Qaz, Option.bind_some, Q6, Y6, Q2c, Q8r]
 cases hr : Q5m l with
 | false => rfl
 | true =>
  obtain ⟨r1, r2, r3, r4⟩ := Qcj hr
  simp only [Bool.not_true, Bool.false_eq_true, if_false, Bool.true_eq_false]
  by_cases h8 : s.length < 8
  ·rw [if_pos (by omega), if_pos h8]
  rw [if_neg (by omega), if_neg h8]
  obtain ⟨a0, a1, a2, a3, a4, a5, a6, a7, t, rfl⟩ := Quj (s := s) (by omega)
  have i0 : idx (a0 :: a1 :: a2 :: a3 :: a4 :: a5 :: a6 :: a7 :: t) 0 = some a0 := rfl
  have i1 : idx (a0 :: a1 :: a2 :: a3 :: a4 :: a5 :: a6 :: a7 :: t) 1 = some a1 := rfl
  have i2 : idx (a0 :: a1 :: a2 :: a3 :: a4 :: a5 :: a6 :: a7 :: t) 2 = some a2 := rfl
  have i3 : idx (a0 :: a1 :: a2 :: a3 :: a4 :: a5 :: a6 :: a7 :: t) 3 = some a3 := rfl
  have i4 : idx (a0 :: a1 :: a2 :: a3 :: a4 :: a5 :: a6 :: a7 :: t) 4 = some a4 := rfl
  have i5 : idx (a0 :: a1 :: a2 :: a3 :: a4 :: a5 :: a6 :: a7 :: t) 5 = some a5 := rfl
  have i6 : idx (a0 :: a1 :: a2 :: a3 :: a4 :: a5 :: a6 :: a7 :: t) 6 = some a6 := rfl
  have i7 : idx (a0 :: a1 :: a2 :: a3 :: a4 :: a5 :: a6 :: a7 :: t) 7 = some a7 := rfl
  have e0 : (a0 :: a1 :: a2 :: a3 :: a4 :: a5 :: a6 :: a7 :: t).take 4 = [a0, a1, a2, a3] := rfl
  have e4 : (a0 :: a1 :: a2 :: a3 :: a4 :: a5 :: a6 :: a7 :: t).getD 4 0 = a4 := rfl
  have e5 : (a0 :: a1 :: a2 :: a3 :: a4 :: a5 :: a6 :: a7 :: t).getD 5 0 = a5 := rfl
  have b4 := a4.toNat_lt
  have b5 := a5.toNat_lt
  have bn := Z1t a0 a1 a2 a3
  rw [i0, i1, i2, i3, i4, i5, i6, i7, e0, e4, e5]
  simp only [Option.bind_some, Quk, Qfq, Qzk]
  rw [Qdp N [a0, a1, a2, a3] (by simp) (by omega)]
  have ew : IntKind.u64.wrap l.MaxPacket = l.MaxPacket := by
   have h : ((l.MaxPacket.toNat : Nat) : Int) = l.MaxPacket := by omega
   have h2 := U5 l.MaxPacket.toNat (by omega)
   rw [h] at h2; exact h2
  have e4w : IntKind.u64.wrap ((a4.toNat : Int) * 4) = ((4 * a4.toNat : Nat) : Int) := by
   rw [show ((a4.toNat : Int) * 4) = ((4 * a4.toNat : Nat) : Int) by omega, U5 _ (by omega)]
  simp only [Option.bind_some, ew, e4w, Qmh]
  generalize Q0o [a0, a1, a2, a3] = n at bn ⊢
  by_cases c1 : l.MaxPacket < (n : Int)
  ·rw [if_pos (by omega), if_pos c1]
  rw [if_neg (by omega), if_neg c1]
  by_cases c2 : n < 8 ∨ a4.toNat < 2 ∨ n < 4 * a4.toNat
  ·rw [if_pos c2]
   repeat' split
   all_goals first | rfl | omega
  rw [if_neg c2, if_neg (by omega), if_neg (by omega), if_neg (by omega)]
  by_cases c3 : 1 < a5.toNat
  ·rw [if_pos c3, decide_eq_false (by omega)]; rfl
  ·rw [if_neg c3, decide_eq_true (by omega)]
   simp only [Bool.not_true, Bool.false_eq_true, if_false]
   rw [Qh _ (by omega)]
theorem Qgj {N : Nat} (hN : N = 800000000) (s : List UInt8) (l : Qw) : Vn N s l = some (Q8r s l) := by
 simp only [Vn, Qa0, Option.bind_some, Q6, Y6, Q2c, Q8r]
 cases hr : Q5m l with
 | false => rfl
 | true =>
  obtain ⟨r1, r2, r3, r4⟩ := Qcj hr
  simp only [Bool.not_true, Bool.false_eq_true, if_false, Bool.true_eq_false]
  by_cases h8 : s.length < 8
  ·rw [if_pos (by omega), if_pos h8]
  rw [if_neg (by omega), if_neg h8]
  obtain ⟨a0, a1, a2, a3, a4, a5, a6, a7, t, rfl⟩ := Quj (s := s) (by omega)
  have i4 : idx (a0 :: a1 :: a2 :: a3 :: a4 :: a5 :: a6 :: a7 :: t) 4 = some a4 := rfl
  have i5 : idx (a0 :: a1 :: a2 :: a3 :: a4 :: a5 :: a6 :: a7 :: t) 5 = some a5 := rfl
  have e0 : (a0 :: a1 :: a2 :: a3 :: a4 :: a5 :: a6 :: a7 :: t).take 4 = [a0, a1, a2, a3] := rfl
  have e4 : (a0 :: a1 :: a2 :: a3 :: a4 :: a5 :: a6 :: a7 :: t).getD 4 0 = a4 := rfl
  have e5 : (a0 :: a1 :: a2 :: a3 :: a4 :: a5 :: a6 :: a7 :: t).getD 5 0 = a5 := rfl
  have b4 := a4.toNat_lt
  have b5 := a5.toNat_lt
  have bn := Z1t a0 a1 a2 a3
  have ew : IntKind.u64.wrap l.MaxPacket = l.MaxPacket := by
   have h : ((l.MaxPacket.toNat : Nat) : Int) = l.MaxPacket := by omega
   have h2 := U5 l.MaxPacket.toNat (by omega)
   rw [h] at h2; exact h2
  have e4w : IntKind.u64.wrap (4 * (a4.toNat : Int)) = ((4 * a4.toNat : Nat) : Int) := by
   rw [show (4 * (a4.toNat : Int)) = ((4 * a4.toNat : Nat) : Int) by omega, U5 _ (by omega)]
  rw [if_pos (by simp [Nat.ble_eq]), e0, List.drop_zero, Qfz N [a0, a1, a2, a3] (by simp) (by omega)]
  simp only [Option.bind_some, ew, i4, i5, e4, e5, Qfq, Qzk, e4w, Wy]
  generalize Q0o [a0, a1, a2, a3] = n at bn ⊢
  by_cases c1 : l.MaxPacket < (n : Int)
  ·rw [if_pos (by omega), if_pos c1]
  rw [if_neg (by omega), if_neg c1]
  by_cases c2 : n < 8 ∨ a4.toNat < 2 ∨ n < 4 * a4.toNat
  ·rw [if_pos c2]
   repeat' split
   all_goals first | rfl | omega
  rw [if_neg c2, if_neg (by omega), if_neg (by omega), if_neg (by omega), Qh _ (by omega)]
  by_cases c3 : 1 < a5.toNat
  ·rw [if_pos c3, if_pos (by omega), if_pos (by omega)]
  ·rw [if_neg c3]
   by_cases c4 : (a5.toNat : Int) ≠ 0
   ·rw [if_pos c4, if_neg (by omega)]
   ·rw [if_neg c4]
theorem Q90 {rd : List UInt8 → Rd} (hg : ∀ s, s.length ≤ 600000 → (rd s).2.2 = 0 → 1 ≤ (rd s).2.1) : ∀ (k k' : Nat) (s : List UInt8) (acc : List Q0), s.length ≤ 600000 → s.length < k → s.length < k' → Q55 rd k s acc = Q55 rd k' s acc
 | 0, _, s, acc, _, h, _ => by omega
 | k + 1, 0, s, acc, _, _, h => by omega
 | k + 1, k' + 1, s, acc, hs, h1, h2 => by
  simp only [Q55]
  by_cases h0 : s = []
  ·rw [if_pos h0, if_pos h0]
  rw [if_neg h0, if_neg h0]
  by_cases h3 : acc.length = 1000
  ·rw [if_pos h3, if_pos h3]
  rw [if_neg h3, if_neg h3]
  by_cases h4 : (rd s).2.2 = 3
  ·rw [if_pos h4, if_pos h4]
  rw [if_neg h4, if_neg h4]
  by_cases h5 : (rd s).2.2 = 0
  ·rw [if_neg (by simp [h5]), if_neg (by simp [h5])]
   have := hg s hs h5
   have hl : 0 < s.length := List.length_pos_iff.2 h0
   exact Q90 hg k k' _ _ (by rw [List.length_drop]; omega) (by rw [List.length_drop]; omega) (by rw [List.length_drop]; omega)
  ·rw [if_pos h5, if_pos h5]
theorem Qa6 (m : Nat) : ∀ s : List UInt8, s.length ≤ 600000 → (Zf (X7 m) s).2.2 = 0 → 1 ≤ (Zf (X7 m) s).2.1 := fun s hs he => by
 have := (Q10 (Q12 m)).2 s hs he
 omega
theorem Qqe {N : Nat} (hN : N = 800000000) {s0 : List UInt8} {l : Qw} {m : Nat} (hm : l.MaxDepth = (m : Int)) (hm2 : m ≤ 32) {v1 : Int × Int} {b5 b7 : UInt8} {v10 : Int} : ∀ (n : Nat) (left : List UInt8) (acc : List Q0), left.length ≤ 600000 → left.length < n → acc.length ≤ 1000 →
  Uq N s0 l v1 b5 b7 v10 n left acc = some (Qy5 (Q55 (Zf (X7 m)) n left acc) fun vs => (⟨IntKind.i64.wrap (b7.toNat : Int), IntKind.i64.wrap v10, (s0.take (IntKind.i64.wrap (4 * IntKind.i64.wrap (b5.toNat : Int))).toNat).drop 8, vs⟩, v1.1, 0))
 | 0, left, acc, _, h, _ => by omega
 | n + 1, left, acc, hl, hn, ha => by
  simp only [Uq, Q6, G4, Wb, Wy, Q55, hm]
  by_cases h0 : left = []
  ·rw [if_neg (by simp [h0]), if_pos h0, Qqs]
  rw [if_pos h0, if_neg h0]
  by_cases h3 : acc.length = 1000
  ·rw [if_pos (by omega), if_pos h3, Q7y _ (by decide)]; rfl
  rw [if_neg (by omega), if_neg h3, Qya m N left hm2 (by omega) hl]
  simp only [Option.bind_some]
  by_cases h4 : (Zf (X7 m) left).2.2 = 3
  ·rw [if_pos h4, if_pos h4, Q7y _ (by decide)]; rfl
  rw [if_neg h4, if_neg h4]
  by_cases h5 : (Zf (X7 m) left).2.2 = 0
  ·rw [if_neg (show ¬ ((Zf (X7 m) left).2.2 ≠ 0) by simp [h5]), if_neg (show ¬ ((Zf (X7 m) left).2.2 ≠ 0) by simp [h5])]
   have g1 := Qa6 m left hl h5
   have g2 := ((Q10 (Q12 m)).1 left hl h5).2.1
   have hp : 0 < left.length := List.length_pos_iff.2 h0
   rw [if_pos (by rw [Nat.ble_eq]; omega), if_pos (by simp; omega), if_pos (by simp [Nat.ble_eq]; omega), List.take_length]
   exact Qqe hN hm hm2 n _ _ (by rw [List.length_drop]; omega) (by rw [List.length_drop]; omega) (by simp; omega)
  ·rw [if_pos h5, if_pos (show (Zf (X7 m) left).2.2 ≠ 0 from h5), Q7y _ h5]; rfl
theorem Qfh {N : Nat} (hN : N = 800000000) {s0 : List UInt8} {l : Qw} {m : Nat} (hm : l.MaxDepth = (m : Int)) (hm2 : m ≤ 32) {v1 : Int × Int} {b5 b7 : UInt8} {v10 : Int} : ∀ (n : Nat) (left : List UInt8) (acc : List Q0), left.length ≤ 300000 → left.length < n → acc.length ≤ 1000 →
  Xx N s0 l v1 b5 b7 v10 n left acc = some (Qy5 (Q55 (Zf (X7 m)) n left acc) fun vs => (⟨IntKind.i64.wrap (b7.toNat : Int), IntKind.i64.wrap v10, (s0.take (IntKind.i64.wrap (4 * IntKind.i64.wrap (b5.toNat : Int))).toNat).drop 8, vs⟩, v1.1, 0))
 | 0, left, acc, _, h, _ => by omega
 | n + 1, left, acc, hl, hn, ha => by
  simp only [Xx, Q6, G4, Wb, Wy, Q55, hm]
  by_cases h0 : left = []
  ·rw [if_neg (by simp [h0]), if_pos h0, Qqs]
  rw [if_pos h0, if_neg h0]
  by_cases h3 : acc.length = 1000
  ·rw [if_pos (by omega), if_pos h3, Q7y _ (by decide)]; rfl
  rw [if_neg (by omega), if_neg h3, Qph m N left hm2 (by omega) hl]
  simp only [Option.bind_some]
  by_cases h4 : (Zf (X7 m) left).2.2 = 3
  ·rw [if_pos h4, if_pos h4, Q7y _ (by decide)]; rfl
  rw [if_neg h4, if_neg h4]
  by_cases h5 : (Zf (X7 m) left).2.2 = 0
  ·rw [if_neg (show ¬ ((Zf (X7 m) left).2.2 ≠ 0) by simp [h5]), if_neg (show ¬ ((Zf (X7 m) left).2.2 ≠ 0) by simp [h5])]
   have g1 := Qa6 m left (by omega) h5
   have g2 := ((Q10 (Q12 m)).1 left (by omega) h5).2.1
   have hp : 0 < left.length := List.length_pos_iff.2 h0
   rw [if_pos (by rw [Nat.ble_eq]; omega), if_pos (by simp; omega), if_pos (by simp [Nat.ble_eq]; omega), List.take_length]
   exact Qfh hN hm hm2 n _ _ (by rw [List.length_drop]; omega) (by rw [List.length_drop]; omega) (by simp; omega)
  ·rw [if_pos h5, if_pos (show (Zf (X7 m) left).2.2 ≠ 0 from h5), Q7y _ h5]; rfl
theorem Qq0 {N : Nat} (hN : N = 800000000) (s : List UInt8) (l : Qw) (hs : s.length ≤ 600000) : Q0i N s l = some (Qkc s l) := by
 simp only [Q0i, Qpq hN, Option.bind_some, Q6, Wy, Y6, Qkc]
 by_cases he : (Q8r s l).2 = 0
 ·rw [if_neg (show ¬ ((Q8r s l).2 ≠ 0) from fun h => h he), if_neg (show ¬ ((Q8r s l).2 ≠ 0) from fun h => h he)]
  obtain ⟨q1, q2, q3, q4, q5, q6, q7, q8⟩ := Qmw he
  obtain ⟨r1, r2, r3, r4⟩ := Qcj q1
  rw [q8]
  simp only []
  by_cases hl : s.length < Q0o (s.take 4)
  ·rw [if_pos (by omega), if_pos hl]; rfl
  rw [if_neg (by omega), if_neg hl]
  obtain ⟨a0, a1, a2, a3, a4, a5, a6, a7, t, rfl⟩ := Quj q2
  have i4 : idx (a0 :: a1 :: a2 :: a3 :: a4 :: a5 :: a6 :: a7 :: t) 4 = some a4 := rfl
  have i5 : idx (a0 :: a1 :: a2 :: a3 :: a4 :: a5 :: a6 :: a7 :: t) 5 = some a5 := rfl
  have e6 : ((a0 :: a1 :: a2 :: a3 :: a4 :: a5 :: a6 :: a7 :: t).take 8).drop 6 = [a6, a7] := rfl
  have e4 : (a0 :: a1 :: a2 :: a3 :: a4 :: a5 :: a6 :: a7 :: t).getD 4 0 = a4 := rfl
  have e5 : (a0 :: a1 :: a2 :: a3 :: a4 :: a5 :: a6 :: a7 :: t).getD 5 0 = a5 := rfl
  have b4 := a4.toNat_lt
  have b7 := Z22 a6 a7
  rw [e4] at q5 q6
  have ew : IntKind.i64.wrap (4 * IntKind.i64.wrap (a4.toNat : Int)) = ((4 * a4.toNat : Nat) : Int) := by
   rw [Qfq, Qh _ (by omega)]; push_cast; rfl
  rw [i4, i5]
  simp only [Option.bind_some, ew, Int.toNat_natCast]
  rw [if_pos (by simp [Nat.ble_eq]), e6, Qdp N [a6, a7] (by simp) (by omega)]
  simp only [Option.bind_some]
  rw [if_pos (by rw [decide_eq_true_eq]; omega), if_pos (by simp only [Nat.ble_eq, Bool.and_eq_true]; omega), if_pos (by rw [decide_eq_true_eq]; omega), if_pos (by simp only [Nat.ble_eq, Bool.and_eq_true]; omega)]
  have hm : l.MaxDepth = ((l.MaxDepth.toNat : Nat) : Int) := by omega
  have hdl : (((a0 :: a1 :: a2 :: a3 :: a4 :: a5 :: a6 :: a7 :: t).take (Q0o ((a0 :: a1 :: a2 :: a3 :: a4 :: a5 :: a6 :: a7 :: t).take 4))).drop (4 * a4.toNat)).length ≤ 600000 := by
   rw [List.length_drop, List.length_take]; omega
  rw [Qqe hN hm (by omega) N _ _ hdl (by omega) (by simp)]
  unfold Qiy Qf5
  rw [e4, e5, e6, Q90 (Qa6 _) N (_ + 1) _ [] hdl (by rw [hN]; omega) (Nat.lt_succ_self _), ew, Qfq]
  simp only [Int.toNat_natCast, Qh ((Q0o [a6, a7] : Nat) : Int) (by omega)]
 ·rw [if_pos he, if_pos he]; rfl
theorem Qib {N : Nat} (hN : N = 800000000) (s : List UInt8) (l : Qw) (hs : s.length ≤ 300000) : J6 N s l = some (Qkc s l) := by
 simp only [J6, Qgj hN, Option.bind_some, Q6, Wy, Y6, Qkc]
 by_cases he : (Q8r s l).2 = 0
 ·rw [if_neg (show ¬ ((Q8r s l).2 ≠ 0) from fun h => h he), if_neg (show ¬ ((Q8r s l).2 ≠ 0) from fun h => h he)]
  obtain ⟨q1, q2, q3, q4, q5, q6, q7, q8⟩ := Qmw he
  obtain ⟨r1, r2, r3, r4⟩ := Qcj q1
  rw [q8]
  simp only []
  by_cases hl : s.length < Q0o (s.take 4)
  ·rw [if_pos (by omega), if_pos hl]; rfl
  rw [if_neg (by omega), if_neg hl]
  obtain ⟨a0, a1, a2, a3, a4, a5, a6, a7, t, rfl⟩ := Quj q2
  have i4 : idx (a0 :: a1 :: a2 :: a3 :: a4 :: a5 :: a6 :: a7 :: t) 4 = some a4 := rfl
  have i5 : idx (a0 :: a1 :: a2 :: a3 :: a4 :: a5 :: a6 :: a7 :: t) 5 = some a5 := rfl
  have e6 : ((a0 :: a1 :: a2 :: a3 :: a4 :: a5 :: a6 :: a7 :: t).take 8).drop 6 = [a6, a7] := rfl
  have e4 : (a0 :: a1 :: a2 :: a3 :: a4 :: a5 :: a6 :: a7 :: t).getD 4 0 = a4 := rfl
  have e5 : (a0 :: a1 :: a2 :: a3 :: a4 :: a5 :: a6 :: a7 :: t).getD 5 0 = a5 := rfl
  have b4 := a4.toNat_lt
  have b7 := Z22 a6 a7
  rw [e4] at q5 q6
  have ew : IntKind.i64.wrap (4 * IntKind.i64.wrap (a4.toNat : Int)) = ((4 * a4.toNat : Nat) : Int) := by
   rw [Qfq, Qh _ (by omega)]; push_cast; rfl
  rw [i4, i5]
  simp only [Option.bind_some, ew, Int.toNat_natCast]
  rw [if_pos (by simp [Nat.ble_eq]), e6, Qfz N [a6, a7] (by simp) (by omega)]
  simp only [Option.bind_some]
  rw [if_pos (by rw [decide_eq_true_eq]; omega), if_pos (by simp only [Nat.ble_eq, Bool.and_eq_true]; omega), if_pos (by rw [decide_eq_true_eq]; omega), if_pos (by simp only [Nat.ble_eq, Bool.and_eq_true]; omega)]
  have hm : l.MaxDepth = ((l.MaxDepth.toNat : Nat) : Int) := by omega
  have hdl : (((a0 :: a1 :: a2 :: a3 :: a4 :: a5 :: a6 :: a7 :: t).take (Q0o ((a0 :: a1 :: a2 :: a3 :: a4 :: a5 :: a6 :: a7 :: t).take 4))).drop (4 * a4.toNat)).length ≤ 300000 := by
   rw [List.length_drop, List.length_take]; omega
  rw [Qfh hN hm (by omega) N _ _ hdl (by omega) (by simp)]
  unfold Qiy Qf5
  rw [e4, e5, e6, Q90 (Qa6 _) N (_ + 1) _ [] (by omega) (by rw [hN]; omega) (Nat.lt_succ_self _), ew, Qfq]
  simp only [Int.toNat_natCast, Qh ((Q0o [a6, a7] : Nat) : Int) (by omega)]
 ·rw [if_pos he, if_pos he]; rfl
end
end Go.Av
namespace Go.Av
noncomputable section
open Go.Proofs
set_option maxRecDepth 100000
theorem Qxz : Uf 800000000 = some true := by decide +kernel
theorem Qu1 (l : List Q0) : Q0.szs (l.map Q0.nrm) = Q0.szs l := by
 induction l with
 | nil => rfl
 | cons x l ih => simp only [List.map_cons, Q0.szs, Q8i, ih]
theorem Qfm {rd : List UInt8 → Rd} (hg : ∀ s, s.length ≤ 600000 → (rd s).2.2 = 0 → 1 ≤ (rd s).2.1 ∧ (rd s).2.1 ≤ s.length ∧ (rd s).1.sz ≤ 1 + 1000 * (rd s).2.1.toNat) : ∀ (k : Nat) (s : List UInt8) (acc : List Q0), s.length ≤ 600000 → Q0.szs (Q55 rd k s acc).1 ≤ Q0.szs acc + 1001 * s.length
 | 0, s, acc, _ => by simp [Q55, Q0.szs]
 | k + 1, s, acc, hs => by
  rw [Q55]
  split
  ·simp
  split
  ·simp [Q0.szs]
  split
  ·simp [Q0.szs]
  split
  ·simp [Q0.szs]
  rename_i h5
  obtain ⟨g1, g2, g3⟩ := hg s hs (Classical.byContradiction h5)
  have := Qfm hg k (s.drop (rd s).2.1.toNat) (acc ++ [(rd s).1]) (by rw [List.length_drop]; omega)
  rw [Q0.szs_app, List.length_drop] at this
  simp only [Q0.szs] at this
  omega
theorem Qsk (m : Nat) : ∀ s : List UInt8, s.length ≤ 600000 → (Zf (X7 m) s).2.2 = 0 → 1 ≤ (Zf (X7 m) s).2.1 ∧ (Zf (X7 m) s).2.1 ≤ s.length ∧ (Zf (X7 m) s).1.sz ≤ 1 + 1000 * (Zf (X7 m) s).2.1.toNat := fun s hs he => by
 have h1 := (Q10 (Q12 m)).1 s hs he
 exact ⟨Qa6 m s hs he, h1.2.1, h1.2.2⟩
theorem Qr2 (s : List UInt8) (n : Nat) : (Qf5 s n).length ≤ s.length := by
 unfold Qf5
 rw [List.length_drop, List.length_take]; omega
theorem Qoy (s : List UInt8) (n m : Nat) (hs : s.length ≤ 600000) : Q0.szs (Qiy s n m).1.Values ≤ 1001 * s.length := by
 have hb := Qr2 s n
 have := Qfm (Qsk m) ((Qf5 s n).length + 1) (Qf5 s n) [] (by omega)
 unfold Qiy Qy5
 split
 ·simp [Qkw, Q0.szs]
 ·simp only [Q0.szs] at this
  show Q0.szs (Q55 (Zf (X7 m)) ((Qf5 s n).length + 1) (Qf5 s n) []).1 ≤ _
  omega
theorem Qr7 (s : List UInt8) (l : Qw) (hs : s.length ≤ 600000) : Q0.szs (Qkc s l).1.Values ≤ 1001 * s.length := by
 unfold Qkc
 split
 ·simp [Qkw, Q0.szs]
 split
 ·simp [Qkw, Q0.szs]
 ·exact Qoy s _ _ hs
theorem eqS (x : List UInt8) : Q3q .eql x x = true := by simp [Q3q]
theorem eqI (x : Int) : Q5 .eql x x = true := by simp [Q5]
theorem Qv6 {N : Nat} (hN : N = 800000000) (hlv : Uf N = some true) (f g : Qf) (s : List UInt8) (l : Qw) (hf : OkF f) (hg : OkF g) : Ys N f g s l = some true := by
 obtain ⟨b1, l1, l2⟩ := Qee hN f
 obtain ⟨b2, l3, l4⟩ := Qee hN g
 simp only [Ys, hlv, Option.bind_some, Q6, Bool.not_true, Bool.false_eq_true, if_false, l1, l3, Q2c]
 cases b1 with
 | false => rfl
 | true =>
  cases b2 with
  | false => rfl
  | true =>
   obtain ⟨n1, x1, v1⟩ := l2 rfl
   obtain ⟨n2, x2, v2⟩ := l4 rfl
   have hfb := Qt7 n1 v1 hf.vals
   simp only [Bool.not_true, Bool.false_eq_true, if_false]
   by_cases hs : s.length > 200
   ·rw [if_pos (by omega)]
   rw [if_neg (by omega)]
   have hz := Qr7 s l (by omega)
   have hz2 := hfb.sz
   rw [Qx2 hN f hfb (fun x hx => (v1 x hx).1)]
   simp only [Option.bind_some, Qo2 hN f l hfb, Qh6 hN f l hfb, Qpq hN, Qgj hN, Qq0 hN s l (by omega), Qib hN s l (by omega), eqS, eqI, if_true, Qmv hN (Qkc s l).1 (Qkc s l).1 (by omega), decide_true,
    Qfd hN f l hfb, Q9l hN f l hfb, Qr1 hN f hfb, Qk8 hN f hfb, Qmv hN f.nrm f.nrm (by unfold Qf.nrm; rw [Qu1]; omega), Qs2 hN f g (by omega), Qkl hN f g (by omega), beq_self_eq_true]
theorem Qj2 (f g : Qf) (s : List UInt8) (l : Qw) (hf : OkF f) (hg : OkF g) (_ : OkL l) : Ys 800000000 f g s l = some true := Qv6 rfl Qxz f g s l hf hg
end
end Go.Av
