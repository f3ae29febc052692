/- The law. Part of a proof of a given statement: for every input the law returns true and the arguments read as before; no condition beyond the given row. -/
import Derived.Test.YtegedmcbfmfjeaaDoorPlainb
namespace Go.Av
noncomputable section
open Go.Proofs
set_option maxRecDepth 100000
theorem Qb9 (N : Nat) (v : Q0) (hf : Fine v) (h : v.sz + 1 < N) (h2 : v.sz < 1000000000) : Xg N v = some (decide (v = v.nrm)) := by
 simp only [Xg, Q57 N v hf h h2, Option.bind_some, Q9f N v v.nrm (by omega) h2]
theorem Qg7 (N : Nat) (code : Int) (v : Q0) (b : List UInt8) (hn : okU v.N') (h : v.Text.length < N) (hb : v.Text.length < 4611686018427387000) (hN : 50 < N) (hl : b.length < 4611686018427387000) (hl2 : v.Items.length < 4611686018427387000) : Yk N code v b = some (Q1n code v b) := by
 simp only [Yk, Q68 N code hN, Option.bind_some, Q94 N code v hn h hb hN, Q7, Wx, Z1, Q1n]
 by_cases hi : (ofS code).Items = false
 ·rw [if_pos (by simp [hi]), if_pos hi]
 ·rw [if_neg (by simpa using hi), if_neg hi]
  by_cases h0 : (ofS code).Width = 0
  ·rw [if_pos h0, if_pos h0]
   congr 1
   rw [Bool.eq_iff_iff, Wx]; simp
  ·rw [if_neg h0, if_neg h0]
   by_cases h4 : (ofS code).Width = 4
   ·rw [if_pos h4]; simp [h4]
   ·rw [if_neg h4, Z5 _ (by omega)]
    split
    ·rename_i h5
     rw [Wg] at h5
     congr 1
     rw [Bool.eq_iff_iff, Wg]; simp [h4]; omega
    ·rename_i h5
     rw [Wg] at h5
     congr 1
     symm
     rw [decide_eq_false_iff_not]; omega
theorem Q7j {N : Nat} {k0 : Int → Option Int} {items : List Q0} {ins : List (List UInt8)} {v1 : List Int} {i : Nat} {code : Int} (hlen : items.length = ins.length) (hc : v1[i]? = some code) (hb : items.length < 1000000000)
  (hR : ∀ p ∈ items.zip ins, Yk N code p.1 p.2 = some (Q1n code p.1 p.2)) : ∀ (n k : Nat) (all : Bool), k ≤ items.length → items.length - k < n →
  Y3 N k0 items ins v1 (i : Int) n all (k : Int) = if (all && Qh2 code ((items.zip ins).drop k)) = true then some code else k0 (IntKind.i64.wrap ((i : Int) + 1))
 | 0, k, all, _, h => by omega
 | n + 1, k, all, hk, hn => by
  simp only [Y3, Q7, Wg, Z1, X5, hc, Option.bind_some]
  by_cases h : k < items.length
  ·rw [if_pos (by omega), List.getElem?_eq_getElem h, List.getElem?_eq_getElem (show k < ins.length by omega)]
   have hz : k < (items.zip ins).length := by simp; omega
   have hmem : (items[k], ins[k]) ∈ items.zip ins := by
    have := List.getElem_mem hz
    rwa [List.getElem_zip] at this
   have hd : (items.zip ins).drop k = (items[k], ins[k]) :: (items.zip ins).drop (k + 1) := by
    rw [List.drop_eq_getElem_cons hz, List.getElem_zip]
   simp only [Option.bind_some, hR _ hmem]
   cases all with
   | false => simp
   | true =>
    rw [if_pos rfl, Z5 _ (by omega)]
    have ih := Q7j (N := N) (k0 := k0) hlen hc hb hR n (k + 1) (Q1n code items[k] ins[k]) (by omega) (by omega)
    rw [hd]
    simp only [Qh2, List.all_cons, Bool.true_and] at ih ⊢
    exact_mod_cast ih
  ·rw [if_neg (by omega), List.drop_of_length_le (by simp; omega)]
   cases all <;> simp [Qh2]
theorem Q74 {N : Nat} {items : List Q0} {ins : List (List UInt8)} {v1 : List Int} (hlen : items.length = ins.length) (hb : items.length < 1000000000) (hb1 : v1.length < 1000) (hN : items.length < N)
  (hR : ∀ c ∈ v1, ∀ p ∈ items.zip ins, Yk N c p.1 p.2 = some (Q1n c p.1 p.2)) : ∀ (n i : Nat), i ≤ v1.length → v1.length - i < n →
  Z9 N items ins v1 n (i : Int) = some (((v1.drop i).find? (fun c => Qh2 c (items.zip ins))).getD 0)
 | 0, i, _, h => by omega
 | n + 1, i, hi, hn => by
  simp only [Z9, Q7, Wg, Ug]
  by_cases h : i < v1.length
  ·rw [if_pos (by omega)]
   have := Q7j (k0 := Z9 N items ins v1 n) hlen (List.getElem?_eq_getElem h) hb (hR _ (List.getElem_mem h)) N 0 true (by omega) (by omega)
   rw [show (0 : Int) = ((0 : Nat) : Int) from rfl, this, List.drop_zero, Bool.true_and, List.drop_eq_getElem_cons h, List.find?_cons]
   cases Qh2 v1[i] (items.zip ins) with
   | true => simp
   | false =>
    rw [if_neg (by simp), Z5 _ (by omega)]
    exact_mod_cast Q74 hlen hb hb1 hN hR n (i + 1) (by omega) (by omega)
  ·rw [if_neg (by omega), List.drop_of_length_le (by omega)]; simp
theorem Q6b (N : Nat) (k : Int) (items : List Q0) (ins : List (List UInt8)) (hlen : items.length = ins.length) (hb : items.length < 1000000000) (hN : items.length < N) (hN2 : 50 < N)
  (hp : ∀ p ∈ items.zip ins, okU p.1.N' ∧ p.1.Text.length < N ∧ p.1.Text.length < 4611686018427387000 ∧ p.2.length < 4611686018427387000 ∧ p.1.Items.length < 4611686018427387000) :
  X4 N k items ins = some (Q1e k (items.zip ins)) := by
 have hc := Qgn k
 simp only [X4, Qdi N k hN2, Option.bind_some]
 have := Q74 (N := N) (v1 := Vq k) hlen hb (by omega) hN (fun c _ p hp' => by
  obtain ⟨h1, h2, h3, h4, h5⟩ := hp p hp'
  exact Qg7 N c p.1 p.2 h1 h2 h3 hN2 h4 h5) N 0 (by omega) (by omega)
 rw [List.drop_zero] at this
 exact this
theorem Q99 (N : Nat) (code : Int) (v : Q0) (b : List UInt8) (hc : ofB code = true) (hn : okU v.N') (h : v.Text.length < N) (hb : v.Text.length < 4611686018427387000) (hN : 50 < N) (hl : b.length < 1000000000000000000) (hl2 : v.Items.length < 1000000000000000000) : Yl N code v b = some (Vu code v b) := by
 simp only [Yl, Q68 N code hN, Option.bind_some, Qit N code v hn h hb hN, Q7, Z1, Vu]
 by_cases hi : (ofS code).Items = false
 ·rw [if_pos (by simp [hi]), if_pos hi]
 ·rw [if_neg (by simpa using hi), if_neg hi]
  have hi : (ofS code).Items = true := by simpa using hi
  by_cases hs : (ofS code).Sized = false
  ·rw [if_pos (by simp [hs]), if_pos hs]
  ·rw [if_neg (by simpa using hs), if_neg hs]
   have hs : (ofS code).Sized = true := by simpa using hs
   obtain ⟨w1, _⟩ := (Ja hc hi).1 hs
   obtain ⟨w, hw, hw2⟩ : ∃ w : Nat, (ofS code).Width = (w : Int) ∧ w ≤ 4 := by
    rcases w1 with h | h
    ·exact ⟨1, h, by omega⟩
    ·exact ⟨4, h, by omega⟩
   rw [hw, Z5 _ (by omega), show ((b.length : Int) + (w : Int)) = ((b.length + w : Nat) : Int) by push_cast; rfl, Jc _ (by omega), Jc _ (by omega),
    Q8n N _ w (by omega) (by omega) (by omega), Q8n N _ w (by omega) (by omega) (by omega)]
   simp only [Option.bind_some, Int.toNat_natCast, Xl, Nat.ble_eq, List.length_append]
   rw [if_pos (by omega), if_pos (by omega), List.append_assoc]
theorem Q6l {R : Q0 → Option (List UInt8)} {N : Nat} {l : List Q0} (hb : l.length < 1000000000) (hR : ∀ y ∈ l, R y = some y.inn) : ∀ (n i : Nat), i ≤ l.length → l.length - i < n →
  Zy R N l n (i : Int) ((l.take i).map Q0.inn) = some (l.map Q0.inn)
 | 0, i, _, h => by omega
 | n + 1, i, hi, hn => by
  simp only [Zy, Q7, Wg, Z1, X5]
  by_cases h : i < l.length
  ·rw [if_pos (by omega), List.getElem?_eq_getElem h]
   simp only [Option.bind_some, hR _ (List.getElem_mem h)]
   rw [if_pos (by rw [Nat.ble_eq, List.length_map, List.length_take]; omega), Z5 _ (by omega)]
   have e : (l.take i).map Q0.inn ++ [l[i].inn] = (l.take (i + 1)).map Q0.inn := by rw [List.take_succ_eq_append_getElem h, List.map_append]; rfl
   rw [e]
   exact_mod_cast Q6l (N := N) hb hR n (i + 1) (by omega) (by omega)
  ·rw [if_neg (by omega), List.take_of_length_le (by omega)]
theorem Q7f {α : Type} (f : Q0 → List α) (l : List Q0) (i : Nat) (h : i < l.length) : ((l.take i).map f).flatten ++ f l[i] = ((l.take (i + 1)).map f).flatten := by
 rw [List.take_succ_eq_append_getElem h, List.map_append, List.flatten_append]; simp
theorem Qhl (f : Q0 → List UInt8) (l : List Q0) (i : Nat) : ((l.take i).map f).flatten.length ≤ (l.map f).flatten.length := by
 conv => rhs; rw [← List.take_append_drop i l, List.map_append, List.flatten_append, List.length_append]
 omega
theorem Q5h {N : Nat} {v : Q0} {ins : List (List UInt8)} {c : Int} (hins : ins = v.Items.map Q0.inn) (hb : v.Items.length < 1000000000) (hl : (v.Items.map fun x => Vu c x x.inn).flatten.length < 1000000000000000000)
  (hR : ∀ y ∈ v.Items, Yl N c y y.inn = some (Vu c y y.inn)) : ∀ (n i : Nat), i ≤ v.Items.length → v.Items.length - i < n →
  Zv N v ins c n (Q84 c :: ((v.Items.take i).map fun x => Vu c x x.inn).flatten) (i : Int) = some (Q84 c :: (v.Items.map fun x => Vu c x x.inn).flatten)
 | 0, i, _, h => by omega
 | n + 1, i, hi, hn => by
  simp only [Zv, Q7, Wg, Z1, X5]
  by_cases h : i < v.Items.length
  ·have hx : ins[i]? = some v.Items[i].inn := by rw [hins, List.getElem?_map, List.getElem?_eq_getElem h]; rfl
   have hft := Q7f (fun x => Vu c x x.inn) v.Items i h
   have h1 := Qhl (fun x => Vu c x x.inn) v.Items (i + 1)
   rw [← hft, List.length_append] at h1
   rw [if_pos (by omega), List.getElem?_eq_getElem h, hx]
   simp only [Option.bind_some, hR _ (List.getElem_mem h)]
   rw [if_pos (by simp only [Nat.ble_eq, List.length_cons]; omega), Z5 _ (by omega), List.cons_append, hft]
   exact_mod_cast Q5h hins hb hl hR n (i + 1) (by omega) (by omega)
  ·rw [if_neg (by omega), List.take_of_length_le (by omega)]
theorem Q5s {R : Q0 → Option (List UInt8)} {N : Nat} {v : Q0} (hk : v.Kind ≠ 25) (hb : v.Items.length < 1000000000) (hl : (v.Items.map Q0.byt).flatten.length < 1000000000000000000)
  (hR : ∀ y ∈ v.Items, R y = some y.byt) : ∀ (n i : Nat), i ≤ v.Items.length → v.Items.length - i < n →
  Zh R N v n ((v.Items.take i).map Q0.byt).flatten (i : Int) = some (v.Items.map Q0.byt).flatten
 | 0, i, _, h => by omega
 | n + 1, i, hi, hn => by
  simp only [Zh, Q7, Wg, Va, Z1, X5]
  by_cases h : i < v.Items.length
  ·have hft := Q7f Q0.byt v.Items i h
   have h1 := Qhl Q0.byt v.Items (i + 1)
   rw [← hft, List.length_append] at h1
   rw [if_pos (by omega), if_pos hk, List.getElem?_eq_getElem h]
   simp only [Option.bind_some, hR _ (List.getElem_mem h)]
   rw [if_pos (by simp only [Nat.ble_eq]; omega), Z5 _ (by omega), hft]
   exact_mod_cast Q5s (N := N) hk hb hl hR n (i + 1) (by omega) (by omega)
  ·rw [if_neg (by omega), List.take_of_length_le (by omega)]
theorem Q8m {c : Int} (h : 0 ≤ c ∧ c < 256) : UInt8.ofNat (IntKind.u8.wrap c).toNat = Q84 c := by
 unfold Q84
 rw [Qov, Int.emod_eq_of_lt h.1 h.2]
theorem Qn6 {v : Q0} (hw : v.wgt < 4000000000) : v.inn.length < 1000000000000000000 ∧ (v.Items.map Q0.byt).flatten.length < 1000000000000000000 ∧ (∀ c, (v.Items.map fun x => Vu c x x.inn).flatten.length < 1000000000000000000) ∧ ∀ x ∈ v.Items, x.wgt < 4000000000 := by
 have hwe := v.wgt_eq
 have h1 := (Ge v).1
 have s1 : ∀ (f : Q0 → List UInt8) (l : List Q0), (∀ x ∈ l, (f x).length ≤ x.wgt) → (l.map f).flatten.length ≤ Q0.wgts l := by
  intro f l
  induction l with
  | nil => intro _; simp
  | cons x l ihl =>
   intro h
   have h1 := h x (.head _)
   have h2 := ihl (fun y hy => h y (.tail _ hy))
   simp only [List.map_cons, List.flatten_cons, List.length_append, Q0.wgts]; omega
 refine ⟨by omega, ?_, fun c => ?_, fun x hx => by have := Qjq hx; omega⟩
 ·have := s1 Q0.byt v.Items (fun x _ => (Ge x).2.1); omega
 ·have := s1 (fun x => Vu c x x.inn) v.Items (fun x _ => by have := (Ge x).2.2 c; omega); omega
theorem Qol (v : Q0) : ∀ m : Int, Fine v → Wo v m = 0 → v.wgt < 4000000000 → v.sz < 1000000000 →
  (∀ N, 3 * v.sz + 300099 ≤ N → Yr N v = some v.inn) ∧ ∀ N, 3 * v.sz + 300100 ≤ N → Y5 N v = some v.byt := by
 induction v using Q0.ind with
 | h v ih =>
  intro m hf hc hw hz
  have hs := v.sz_eq
  have hsl := Q0.szs_len v.Items
  obtain ⟨l1, l2, l3, l4⟩ := Qn6 hw
  have hit : ∀ x ∈ v.Items, ∃ m', Wo x m' = 0 := fun x hx => by
   rcases Uv hc with ⟨k1, k2, k3⟩ | ⟨_, _, _, _, _, _, k7⟩
   ·rw [(J2 k3).2.2.2.1] at hx; cases hx
   ·exact ⟨_, (k7 x hx).1⟩
  have hsx : ∀ x ∈ v.Items, x.sz + 1 ≤ v.sz := fun x hx => by have := Q0.szs_mem _ x hx; omega
  have hI : ∀ x ∈ v.Items, (∀ N, 3 * x.sz + 300099 ≤ N → Yr N x = some x.inn) ∧ ∀ N, 3 * x.sz + 300100 ≤ N → Y5 N x = some x.byt := fun x hx => by
   obtain ⟨m', hm⟩ := hit x hx
   exact ih x hx m' (hf.items x hx) hm (l4 x hx) (by have := hsx x hx; omega)
  have htx := hf.text
  have hW : ∀ N, 3 * v.sz + 300099 ≤ N → Yr N v = some v.inn := by
   intro N hN
   obtain ⟨N, rfl⟩ : ∃ N', N = N' + 2 := ⟨N - 2, by omega⟩
   show Xf (Y5 (N + 1)) (Yr (N + 1)) (Vm (N + 1)) (N + 1) v = _
   rw [Qcs]
   simp only [Xf, Q7, Wx]
   by_cases h4 : v.Kind = 24
   ·rw [if_pos h4, if_pos h4]
    rcases Uv hc with ⟨k1, k2, k3⟩ | ⟨k1, k2, k3, k4, k5, k6, k7⟩
    ·omega
    obtain ⟨s1, s2, s3, s4, s5⟩ := G3 k4
    have hn := s2 h4
    have hin : Vm (N + 1) v.Items = some (v.Items.map Q0.inn) :=
     Q6l (R := Yr N) (N := N) (by omega) (fun x hx => (hI x hx).1 N (by have := hsx x hx; omega)) N 0 (by omega) (by omega)
    have hzip : v.Items.zip (v.Items.map Q0.inn) = v.prs := by
     unfold Q0.prs
     have : ∀ l : List Q0, l.zip (l.map Q0.inn) = l.map fun x => (x, x.inn) := by
      intro l
      induction l with
      | nil => rfl
      | cons x l ih => simp [ih]
     exact this _
    have hfi := Q6b (N + 1) v.N' v.Items (v.Items.map Q0.inn) (by simp) (by omega) (by omega) (by omega) (fun p hp => by
     rw [hzip] at hp
     unfold Q0.prs at hp
     obtain ⟨x, hx, rfl⟩ := List.mem_map.1 hp
     have f1 := hf.items x hx
     have f2 := f1.text
     have f3 := (Ge x).1
     have f4 := l4 x hx
     have f5 := hsx x hx
     have f6 := x.sz_eq
     have f7 := Q0.szs_len x.Items
     have f8 := x.wgt_eq
     exact ⟨f1.num, by simp only []; omega, by simp only []; omega, by simp only []; omega, by simp only []; omega⟩)
    rw [hzip] at hfi
    obtain ⟨e1, _⟩ := Qm3 hf hc h4
    obtain ⟨d1, _, _⟩ := Q4n _ _ e1
    rw [hin]
    simp only [Option.bind_some]
    rw [Z5 _ (by omega), hfi]
    simp only [Option.bind_some]
    have hel : Q1e v.N' v.prs = v.elm := rfl
    rw [hel, Q8m (Q1u d1)]
    have := Q5h (N := N + 1) (v := v) (c := v.elm) rfl (by omega) (l3 v.elm) (fun x hx => by
     have f1 := hf.items x hx
     have f2 := f1.text
     have f3 := (Ge x).1
     have f4 := l4 x hx
     have f5 := hsx x hx
     have f6 := x.sz_eq
     have f7 := Q0.szs_len x.Items
     have f8 := x.wgt_eq
     exact Q99 (N + 1) v.elm x x.inn d1 f1.num (by omega) (by omega) (by omega) (by omega) (by omega)) (N + 1) 0 (by omega) (by omega)
    exact this
   ·rw [if_neg h4, if_neg h4]
    by_cases h5 : v.Kind = 25
    ·rw [if_pos h5]
     simp only [Zh, Q7, Wg, Va, Z1]
     rw [if_neg (show ¬ (v.Kind ≠ 25) by omega)]
     simp
    ·rw [if_neg h5]
     have := Q5s (R := Y5 (N + 1)) (N := N + 1) h5 (by omega) l2 (fun x hx => (hI x hx).2 (N + 1) (by have := hsx x hx; omega)) (N + 1) 0 (by omega) (by omega)
     exact this
  refine ⟨hW, fun N hN => ?_⟩
  obtain ⟨N, rfl⟩ : ∃ N', N = N' + 1 := ⟨N - 1, by omega⟩
  show Xn (Y5 N) (Yr N) (Vm N) N v = _
  rw [Qfr]
  simp only [Xn, Q7, Wx]
  by_cases h5 : v.Kind = 25
  ·rw [if_pos h5, if_pos h5]
   rcases Uv hc with ⟨k1, k2, k3⟩ | ⟨k1, k2, k3, k4, k5, k6, k7⟩
   ·omega
   have hl := (G3 k4).2.2.2.1 h5
   match hI' : v.Items, hl with
   | [x, y], _ =>
    have hx : x ∈ v.Items := by rw [hI']; simp
    have hy : y ∈ v.Items := by rw [hI']; simp
    have e0 : idx [x, y] 0 = some x := rfl
    have e1 : idx [x, y] 1 = some y := rfl
    rw [e0, e1]
    have b1 := (Ge x).2.1
    have b2 := (Ge y).2.1
    have b3 := l4 x hx
    have b4 := l4 y hy
    simp only [Option.bind_some, (hI x hx).2 N (by have := hsx x hx; omega), (hI y hy).2 N (by have := hsx y hy; omega)]
    rw [if_pos (by simp only [Nat.ble_eq, List.length_cons, List.length_nil]; omega), if_pos (by simp only [Nat.ble_eq, List.length_append, List.length_cons, List.length_nil]; omega)]
    simp
  ·rw [if_neg h5, if_neg h5, hW N (by omega)]
   simp only [Option.bind_some]
   have hfi := Q6b N v.Kind [v] [v.inn] rfl (by simp) (by simp; omega) (by omega) (fun p hp => by
    have : p = (v, v.inn) := by simpa using hp
    subst this
    exact ⟨hf.num, by simp only []; omega, by simp only []; omega, by simp only []; omega, by simp only []; omega⟩)
   have hz' : [v].zip [v.inn] = [(v, v.inn)] := rfl
   rw [hfi, hz']
   simp only [Option.bind_some]
   have hco : Q1e v.Kind [(v, v.inn)] = v.cod := rfl
   obtain ⟨e1, _⟩ := Qm4 hf hc h5
   obtain ⟨d1, _, _⟩ := Q4n _ _ e1
   have hdl := (Ge v).2.2 v.cod
   rw [hco, Q99 N v.cod v v.inn d1 hf.num (by omega) (by omega) (by omega) (by omega) (by omega)]
   simp only [Option.bind_some]
   rw [if_pos (by simp only [Nat.ble_eq, List.length_cons, List.length_nil]; omega), Q8m (Q1u d1)]
   rfl
theorem Qdu (N : Nat) (v : Q0) (m : Int) (hf : Fine v) (hw : v.wgt < 4000000000) (hz : v.sz < 1000000000) (hN : 3 * v.sz + 301000 ≤ N) :
  Xr N v m = some (if Q1m v m ≠ 0 then ([], Q1m v m) else (v.nrm.byt, 0)) := by
 simp only [Xr, Qcd N v m hf (by omega) hz, Option.bind_some, Q7, Va]
 by_cases h : Q1m v m = 0
 ·rw [if_neg (by simp [h]), if_neg (by simp [h]), Q57 N v hf (by omega) hz]
  have hc : Wo v m = 0 := by
   unfold Q1m at h
   split at h
   ·cases h
   ·exact h
  simp only [Option.bind_some, (Qol v.nrm m (Qks hf) (Qj9 v m hc) (by rw [Qnn]; exact hw) (by rw [Qlt]; exact hz)).2 N (by rw [Qlt]; omega)]
 ·rw [if_pos h, if_pos h]
end
end Go.Av
namespace Go.Av
noncomputable section
open Go.Proofs
set_option maxRecDepth 100000
end
end Go.Av
namespace Go.Av
noncomputable section
open Go.Proofs
set_option maxRecDepth 100000
theorem Qiz {v : Q0} {m : Int} (h : Q1m v m = 0) : Wo v m = 0 ∧ 0 ≤ m ∧ m ≤ 32 := by
 unfold Q1m at h
 split at h
 ·cases h
 ·rename_i hr
  unfold Q3n at hr
  simp at hr
  exact ⟨h, hr.1, hr.2⟩
end
end Go.Av
namespace Go.Av
noncomputable section
open Go.Proofs
set_option maxRecDepth 100000
theorem Qdy (v : Q0) (h : v.txt) : v.wgt ≤ 430 * v.sz := by
 induction v using Q0.ind with
 | h v ih =>
  rw [Q0.txt_eq] at h
  have hl : ∀ l : List Q0, (∀ x ∈ l, x.wgt ≤ 430 * x.sz) → Q0.wgts l ≤ 430 * Q0.szs l := by
   intro l
   induction l with
   | nil => intro _; simp [Q0.wgts]
   | cons x l ihl =>
    intro h
    have h1 := h x (.head _)
    have h2 := ihl (fun y hy => h y (.tail _ hy))
    simp only [Q0.wgts, Q0.szs]; omega
  have := hl v.Items (fun x hx => ih x hx (Q9o _ h.2 x hx))
  rw [v.wgt_eq, v.sz_eq]; omega
end
end Go.Av
namespace Go.Av
noncomputable section
open Go.Proofs
set_option maxRecDepth 100000
end
end Go.Av
namespace Go.Av
noncomputable section
open Go.Proofs
set_option maxRecDepth 100000
theorem Qkd : ((ofS 208).Items = true ∧ (ofS 208).Width = 4 ∧ (ofS 208).Sized = true) ∧ ofB 208 = true ∧ (ofS 208).Kind = 22 := by decide +kernel
theorem Qi0 {l : List Q0} {A : List UInt8} (hl : l.length ≤ 12) (hA : (l.map Q0.byt).flatten = A) (hok : ∀ x ∈ l, Fine x ∧ Wo x (8 : Nat) = 0 ∧ x.wgt ≤ 17200) :
  W8 (Jm 9) ((([208] ++ Jg (A.length + 4) 4) ++ Jg l.length 4) ++ A) = (⟨22, 0, [], l⟩, ((A.length + 9 : Nat) : Int), 0) := by
 have hv := Qkw (k := 22) (n := 0) (l := l) (m := 8) (by omega) (by omega) (fun x hx => ⟨(hok x hx).1, (hok x hx).2.1, fun h => by omega⟩) (Qnt (by omega)) (by omega) (fun _ => rfl) (by omega) (by omega)
 have hin : (⟨22, 0, [], l⟩ : Q0).inn = A := by rw [Qcs, if_neg (by show ¬ ((22 : Int) = 24); decide), if_neg (by show ¬ ((22 : Int) = 25); decide)]; exact hA
 have hw : (⟨22, 0, [], l⟩ : Q0).wgt < 4000000000 := by
  have : ∀ m : List Q0, (∀ x ∈ m, x.wgt ≤ 17200) → Q0.wgts m ≤ 17200 * m.length := by
   intro m
   induction m with
   | nil => intro _; simp [Q0.wgts]
   | cons x m ih =>
    intro h
    have h1 := h x (.head _)
    have h2 := ih (fun y hy => h y (.tail _ hy))
    simp only [Q0.wgts, List.length_cons]; omega
  have := this l (fun x hx => (hok x hx).2.2)
  rw [Q0.wgt_eq]; simp only [List.length_nil]; omega
 obtain ⟨⟨c1, c2, c3⟩, c4, c5⟩ := Qkd
 have hs : Q1n 208 ⟨22, 0, [], l⟩ A = true := by
  unfold Q1n; rw [if_neg (by simp [c1]), if_neg (by omega), c2]; simp
 have hd : Vu 208 ⟨22, 0, [], l⟩ A = Jg (A.length + 4) 4 ++ (Jg l.length 4 ++ A) := by
  unfold Vu; rw [if_neg (by simp [c1]), if_neg (by simp [c3]), c2]; rfl
 have hb := (Qlh ⟨22, 0, [], l⟩ 9 hv.1 hv.2 hw).1 208 c4 c5 (by show (22 : Int) ≠ 25; decide) (by rw [hin]; exact hs) []
 rw [hin, hd, List.append_nil] at hb
 have e : (([208] ++ Jg (A.length + 4) 4) ++ Jg l.length 4) ++ A = (208 : UInt8) :: (Jg (A.length + 4) 4 ++ (Jg l.length 4 ++ A)) := by simp
 have e2 : (((208 : UInt8).toNat : Nat) : Int) = 208 := rfl
 rw [e, W8, e2, hb, if_neg (by simp)]
 have hlen : (((Jg (A.length + 4) 4 ++ (Jg l.length 4 ++ A)).length : Nat) : Int) + 1 = ((A.length + 9 : Nat) : Int) := by simp [Xl]; omega
 simp only [hlen]
theorem Qlk (l : List Q0) (i : Nat) (h : i < l.length) : Q0.szs (l.take i) + l[i].sz = Q0.szs (l.take (i + 1)) := by
 rw [List.take_succ_eq_append_getElem h, Q0.szs_app]; simp [Q0.szs]
theorem Qdf (l : List Q0) (i : Nat) : Q0.szs (l.take i) ≤ Q0.szs l := by
 conv => rhs; rw [← List.take_append_drop i l, Q0.szs_app]
 omega
theorem Qfm {N : Nat} (hN : N = 800000000) {l : List Q0} {r : Q0 × Int × Int} (hr : r.1 = ⟨22, 0, [], l⟩) (hz : Q0.szs l ≤ 1000) (hl : l.length ≤ 12) (hk : ∀ x ∈ l, x.Kind ≤ 25) : ∀ (n i : Nat), i ≤ l.length → l.length - i < n →
  Qy N l r n ((1 + Q0.szs (l.take i) : Nat) : Int) (i : Int) = some true
 | 0, i, _, h => by omega
 | n + 1, i, hi, hn => by
  have hsz : (⟨22, 0, [], l⟩ : Q0).sz = 1 + Q0.szs l := by rw [Q0.sz_eq]
  simp only [Qy, Q7, Wg, Va, Q2w, Z1, hr, X5]
  by_cases h : i < l.length
  ·have hx := Q0.szs_mem l l[i] (List.getElem_mem h)
   have ht := Qlk l i h
   have hle := Qdf l (i + 1)
   rw [if_pos (by omega), List.getElem?_eq_getElem h]
   simp only [Option.bind_some]
   rw [Q7a _ l[i] l[i] (by omega) (by omega)]
   simp only [Option.bind_some, decide_true, Bool.not_true, Bool.false_eq_true, if_false]
   rw [Qad _ l[i] (by omega) (by omega)]
   simp only [Option.bind_some]
   rw [Z5 _ (by omega), Z5 _ (by omega), show (((1 + Q0.szs (l.take i) : Nat) : Int) + (l[i].sz : Int)) = ((1 + Q0.szs (l.take (i + 1)) : Nat) : Int) by omega]
   exact_mod_cast Qfm hN hr hz hl hk n (i + 1) (by omega) (by omega)
  ·have hil : i = l.length := by omega
   rw [if_neg (by omega), Qif _ _ (by omega) (by omega)]
   simp only [Option.bind_some]
   rw [Q7a _ _ _ (by omega) (by omega)]
   simp only [Option.bind_some, decide_true, Bool.not_true, Bool.false_eq_true, if_false]
   rw [Qad _ _ (by omega) (by omega)]
   simp only [Option.bind_some]
   rw [hil, List.take_length, hsz, if_neg (by simp)]
   cases l with
   | nil => rw [if_neg (by simp)]
   | cons x t =>
    have e0 : idx (x :: t) 0 = some x := rfl
    have hxs := Q0.szs_mem (x :: t) x (.head _)
    rw [if_pos (by simp), e0]
    simp only [Option.bind_some]
    rw [Q7a _ x x (by omega) (by omega)]
    simp only [Option.bind_some, decide_true, if_true]
    have hs2 : (⟨22, 0, [], (x :: t).set (Int.toNat 0) ⟨99, 0, [], []⟩⟩ : Q0).sz ≤ 1000 + 2 := by
     rw [Q0.sz_eq]
     show 1 + Q0.szs (⟨99, 0, [], []⟩ :: t) ≤ _
     simp only [Q0.szs] at hz ⊢
     have : (⟨99, 0, [], []⟩ : Q0).sz = 1 := by rw [Q0.sz_eq]; rfl
     omega
    rw [Q7a _ _ _ (by omega) (by omega)]
    simp only [Option.bind_some]
    have hne : ¬ ((⟨22, 0, [], (x :: t).set (Int.toNat 0) ⟨99, 0, [], []⟩⟩ : Q0) = ⟨22, 0, [], x :: t⟩) := by
     intro h
     have h1 : (⟨99, 0, [], []⟩ :: t : List Q0) = x :: t := congrArg Q0.Items h
     have h2 := (List.cons.inj h1).1
     have := hk x (.head _)
     rw [← h2] at this
     exact absurd this (by show ¬ ((99 : Int) ≤ 25); decide)
    rw [decide_eq_false hne]; rfl
theorem Qec {N : Nat} (hN : N = 800000000) {l : List Q0} (hl : l.length ≤ 12) (hv : ∀ x ∈ l, OkV x) : ∀ (n i : Nat), i ≤ l.length → l.length - i < n → (∀ x ∈ l.take i, x.sz ≤ 40 ∧ x.txt ∧ Fine x ∧ Wo x (8 : Nat) = 0) →
  Qz N l n ((l.take i).map Q0.byt).flatten (i : Int) = some true
 | 0, i, _, h, _ => by omega
 | n + 1, i, hi, hn, hok => by
  simp only [Qz, Q7, Wg, Va, Z1, X5]
  have hbl : ∀ m : List Q0, (∀ x ∈ m, x.sz ≤ 40 ∧ x.txt) → (m.map Q0.byt).flatten.length ≤ 17200 * m.length := by
   intro m
   induction m with
   | nil => intro _; simp
   | cons x m ih =>
    intro h
    have h1 := h x (.head _)
    have h2 := ih (fun y hy => h y (.tail _ hy))
    have h3 := (Ge x).2.1
    have h4 := Qdy x h1.2
    simp only [List.map_cons, List.flatten_cons, List.length_append, List.length_cons]; omega
  by_cases h : i < l.length
  ·have hx := List.getElem_mem h
   obtain ⟨b1, l1, l2⟩ := Qgr N l[i] (by omega)
   rw [if_pos (by omega), List.getElem?_eq_getElem h]
   simp only [Option.bind_some, l1]
   cases b1 with
   | false => rfl
   | true =>
    obtain ⟨s1, t1⟩ := l2 rfl
    have hf := Qmz l[i] (hv _ hx) t1
    have w1 := Qdy l[i] t1
    simp only [Bool.not_true, Bool.false_eq_true, if_false]
    rw [Qb9 _ l[i] hf (by omega) (by omega)]
    simp only [Option.bind_some]
    by_cases hnr : l[i] = l[i].nrm
    ·rw [decide_eq_true hnr]
     simp only [Bool.not_true, Bool.false_eq_true, if_false]
     rw [Qdu _ l[i] 8 hf (by omega) (by omega) (by omega), ← hnr]
     simp only [Option.bind_some]
     by_cases hc : Q1m l[i] 8 = 0
     ·rw [if_neg (show ¬ (Q1m l[i] 8 ≠ 0) by simp [hc])]
      obtain ⟨hcv, _⟩ := Qiz hc
      have hft := Q7f Q0.byt l i h
      have hl1 := hbl (l.take i) (fun x hx => ⟨(hok x hx).1, (hok x hx).2.1⟩)
      have hl2 := (Ge l[i]).2.1
      rw [List.length_take] at hl1
      simp only []
      rw [if_neg (by simp), if_pos (by simp only [Nat.ble_eq]; omega), Z5 _ (by omega), hft]
      exact_mod_cast Qec hN hl hv n (i + 1) (by omega) (by omega) (fun x hx => by
       rw [List.take_succ_eq_append_getElem h] at hx
       rcases List.mem_append.1 hx with hx | hx
       ·exact hok x hx
       ·have : x = l[i] := by simpa using hx
        subst this
        exact ⟨s1, t1, hf, hcv⟩)
     ·rw [if_pos (show Q1m l[i] 8 ≠ 0 from hc), if_pos hc]
    ·rw [decide_eq_false hnr]; rfl
  ·rw [if_neg (by omega)]
   rw [List.take_of_length_le (by omega)] at hok ⊢
   have hA := hbl l (fun x hx => ⟨(hok x hx).1, (hok x hx).2.1⟩)
   generalize hAe : (l.map Q0.byt).flatten = A at *
   have e4 : IntKind.i64.wrap ((A.length : Int) + 4) = ((A.length + 4 : Nat) : Int) := by rw [Z5 _ (by omega)]; push_cast; rfl
   have b3 := Q8n N (A.length + 4) 4 (by omega) (by omega) (by omega)
   have b4 := Q8n N l.length 4 (by omega) (by omega) (by omega)
   rw [show ((4 : Nat) : Int) = 4 from rfl] at b3 b4
   rw [e4, Jc _ (by omega), Jc _ (by omega), b3, b4]
   simp only [Option.bind_some]
   rw [if_pos (by simp [Nat.ble_eq, Xl]), if_pos (by simp [Nat.ble_eq, Xl]), if_pos (by simp [Nat.ble_eq, Xl]; omega)]
   have hrd := Qi0 hl hAe (fun x hx => ⟨(hok x hx).2.2.1, (hok x hx).2.2.2, by have := Qdy x (hok x hx).2.1; have := (hok x hx).1; omega⟩)
   have hR := Qod 9 N ((([208] ++ Jg (A.length + 4) 4) ++ Jg l.length 4) ++ A) (by omega) (by omega) (by simp [Xl]; omega)
   rw [hrd] at hR
   rw [show ((9 : Nat) : Int) = 9 from rfl] at hR
   rw [hR]
   simp only [Option.bind_some]
   rw [if_neg (by simp), Z5 _ (by omega), if_neg (by push_cast; omega), if_neg (by simp), if_neg (by simp)]
   have hsz : Q0.szs l ≤ 1000 := by
    have : ∀ m : List Q0, (∀ x ∈ m, x.sz ≤ 40) → Q0.szs m ≤ 40 * m.length := by
     intro m
     induction m with
     | nil => intro _; simp [Q0.szs]
     | cons x m ih =>
      intro h
      have h1 := h x (.head _)
      have h2 := ih (fun y hy => h y (.tail _ hy))
      simp only [Q0.szs, List.length_cons]; omega
    have := this l (fun x hx => (hok x hx).1)
    omega
   have := Qfm hN (l := l) (r := (⟨22, 0, [], l⟩, ((A.length + 9 : Nat) : Int), 0)) rfl hsz hl (fun x hx => (Q8y (hok x hx).2.2.2).2) N 0 (by omega) (by omega)
   simpa [Q0.szs] using this
theorem Qd2 {N : Nat} (hN : N = 800000000) (hl : Xt N = some true) (l : List Q0) (hv : ∀ x ∈ l, OkV x) : Zu N l = some true := by
 simp only [Zu, hl, Option.bind_some, Q7, Bool.not_true, Bool.false_eq_true, if_false, Q2w, Z1]
 by_cases hl : l.length > 12
 ·rw [if_pos (by omega)]
 rw [if_neg (by omega)]
 have := Qec hN (l := l) (by omega) hv N 0 (by omega) (by omega) (by simp)
 simpa using this
theorem Qgv (l : List Q0) (hv : ∀ x ∈ l, OkV x) : Zu 800000000 l = some true := Qd2 rfl Qk9 l hv
end
end Go.Av
