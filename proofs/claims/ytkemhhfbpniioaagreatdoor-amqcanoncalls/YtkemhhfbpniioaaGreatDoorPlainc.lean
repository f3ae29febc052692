/- The law. Part of a proof of a given statement: for every input the law returns true and the arguments read as before; no condition beyond the given row. -/
import Derived.Test.YtkemhhfbpniioaaGreatDoorPlainb
namespace Go.Av
noncomputable section
open Go.Proofs
set_option maxRecDepth 100000
theorem Qfk (N : Nat) (v : Q0) (hf : Fine v) (h : v.sz + 1 < N) (h2 : v.sz < 1000000000) : V9 N v = some (decide (v = v.nrm)) := by
 simp only [V9, Q69 N v hf h h2, Option.bind_some, Qdg N v v.nrm (by omega) h2]
theorem Qlj (N : Nat) (code : Int) (v : Q0) (b : List UInt8) (hn : okU v.N') (h : v.Text.length < N) (hb : v.Text.length < 4611686018427387000) (hN : 50 < N) (hl : b.length < 4611686018427387000) (hl2 : v.Items.length < 4611686018427387000) : Xr N code v b = some (Q4p code v b) := by
 simp only [Xr, Q2y N code hN, Option.bind_some, Qdk N code v hn h hb hN, Q6, Wb, Z9, Q4p]
 by_cases hi : (ofS code).Items = false
 ·rw [if_pos (by simp [hi]), if_pos hi]
 ·rw [if_neg (by simpa using hi), if_neg hi]
  by_cases h0 : (ofS code).Width = 0
  ·rw [if_pos h0, if_pos h0]
   congr 1
   rw [Bool.eq_iff_iff, Wb]; simp
  ·rw [if_neg h0, if_neg h0]
   by_cases h4 : (ofS code).Width = 4
   ·rw [if_pos h4]; simp [h4]
   ·rw [if_neg h4, Qq _ (by omega)]
    split
    ·rename_i h5
     rw [Xo] at h5
     congr 1
     rw [Bool.eq_iff_iff, Xo]; simp [h4]; omega
    ·rename_i h5
     rw [Xo] at h5
     congr 1
     symm
     rw [decide_eq_false_iff_not]; omega
theorem Qat {N : Nat} {k0 : Int → Option Int} {items : List Q0} {ins : List (List UInt8)} {v1 : List Int} {i : Nat} {code : Int} (hlen : items.length = ins.length) (hc : v1[i]? = some code) (hb : items.length < 1000000000)
  (hR : ∀ p ∈ items.zip ins, Xr N code p.1 p.2 = some (Q4p code p.1 p.2)) : ∀ (n k : Nat) (all : Bool), k ≤ items.length → items.length - k < n →
  Yy N k0 items ins v1 (i : Int) n all (k : Int) = if (all && Qm3 code ((items.zip ins).drop k)) = true then some code else k0 (IntKind.i64.wrap ((i : Int) + 1))
 | 0, k, all, _, h => by omega
 | n + 1, k, all, hk, hn => by
  simp only [Yy, Q6, Xo, Z9, Yb, hc, Option.bind_some]
  by_cases h : k < items.length
  ·rw [if_pos (by omega), List.getElem?_eq_getElem h, List.getElem?_eq_getElem (show k < ins.length by omega)]
   have hz : k < (items.zip ins).length := by simp; omega
   have hmem : (items[k], ins[k]) ∈ items.zip ins := by
    have := List.getElem_mem hz
    rwa [List.getElem_zip] at this
   have hd : (items.zip ins).drop k = (items[k], ins[k]) :: (items.zip ins).drop (k + 1) := by
    rw [List.drop_eq_getElem_cons hz, List.getElem_zip]
   simp only [Option.bind_some, hR _ hmem]
   cases all with
   | false => simp
   | true =>
    rw [if_pos rfl, Qq _ (by omega)]
    have ih := Qat (N := N) (k0 := k0) hlen hc hb hR n (k + 1) (Q4p code items[k] ins[k]) (by omega) (by omega)
    rw [hd]
    simp only [Qm3, List.all_cons, Bool.true_and] at ih ⊢
    exact_mod_cast ih
  ·rw [if_neg (by omega), List.drop_of_length_le (by simp; omega)]
   cases all <;> simp [Qm3]
theorem Qca {N : Nat} {items : List Q0} {ins : List (List UInt8)} {v1 : List Int} (hlen : items.length = ins.length) (hb : items.length < 1000000000) (hb1 : v1.length < 1000) (hN : items.length < N)
  (hR : ∀ c ∈ v1, ∀ p ∈ items.zip ins, Xr N c p.1 p.2 = some (Q4p c p.1 p.2)) : ∀ (n i : Nat), i ≤ v1.length → v1.length - i < n →
  Zm N items ins v1 n (i : Int) = some (((v1.drop i).find? (fun c => Qm3 c (items.zip ins))).getD 0)
 | 0, i, _, h => by omega
 | n + 1, i, hi, hn => by
  simp only [Zm, Q6, Xo, Jn]
  by_cases h : i < v1.length
  ·rw [if_pos (by omega)]
   have := Qat (k0 := Zm N items ins v1 n) hlen (List.getElem?_eq_getElem h) hb (hR _ (List.getElem_mem h)) N 0 true (by omega) (by omega)
   rw [show (0 : Int) = ((0 : Nat) : Int) from rfl, this, List.drop_zero, Bool.true_and, List.drop_eq_getElem_cons h, List.find?_cons]
   cases Qm3 v1[i] (items.zip ins) with
   | true => simp
   | false =>
    rw [if_neg (by simp), Qq _ (by omega)]
    exact_mod_cast Qca hlen hb hb1 hN hR n (i + 1) (by omega) (by omega)
  ·rw [if_neg (by omega), List.drop_of_length_le (by omega)]; simp
theorem Qaw (N : Nat) (k : Int) (items : List Q0) (ins : List (List UInt8)) (hlen : items.length = ins.length) (hb : items.length < 1000000000) (hN : items.length < N) (hN2 : 50 < N)
  (hp : ∀ p ∈ items.zip ins, okU p.1.N' ∧ p.1.Text.length < N ∧ p.1.Text.length < 4611686018427387000 ∧ p.2.length < 4611686018427387000 ∧ p.1.Items.length < 4611686018427387000) :
  Wr N k items ins = some (Q29 k (items.zip ins)) := by
 have hc := Qdy k
 simp only [Wr, Qi3 N k hN2, Option.bind_some]
 have := Qca (N := N) (v1 := Ux k) hlen hb (by omega) hN (fun c _ p hp' => by
  obtain ⟨h1, h2, h3, h4, h5⟩ := hp p hp'
  exact Qlj N c p.1 p.2 h1 h2 h3 hN2 h4 h5) N 0 (by omega) (by omega)
 rw [List.drop_zero] at this
 exact this
theorem Qdd (N : Nat) (code : Int) (v : Q0) (b : List UInt8) (hc : ofB code = true) (hn : okU v.N') (h : v.Text.length < N) (hb : v.Text.length < 4611686018427387000) (hN : 50 < N) (hl : b.length < 1000000000000000000) (hl2 : v.Items.length < 1000000000000000000) : Xx N code v b = some (V8 code v b) := by
 simp only [Xx, Q2y N code hN, Option.bind_some, Qmi N code v hn h hb hN, Q6, Z9, V8]
 by_cases hi : (ofS code).Items = false
 ·rw [if_pos (by simp [hi]), if_pos hi]
 ·rw [if_neg (by simpa using hi), if_neg hi]
  have hi : (ofS code).Items = true := by simpa using hi
  by_cases hs : (ofS code).Sized = false
  ·rw [if_pos (by simp [hs]), if_pos hs]
  ·rw [if_neg (by simpa using hs), if_neg hs]
   have hs : (ofS code).Sized = true := by simpa using hs
   obtain ⟨w1, _⟩ := (Uq hc hi).1 hs
   obtain ⟨w, hw, hw2⟩ : ∃ w : Nat, (ofS code).Width = (w : Int) ∧ w ≤ 4 := by
    rcases w1 with h | h
    ·exact ⟨1, h, by omega⟩
    ·exact ⟨4, h, by omega⟩
   rw [hw, Qq _ (by omega), show ((b.length : Int) + (w : Int)) = ((b.length + w : Nat) : Int) by push_cast; rfl, Q13 _ (by omega), Q13 _ (by omega),
    Qkg N _ w (by omega) (by omega) (by omega), Qkg N _ w (by omega) (by omega) (by omega)]
   simp only [Option.bind_some, Int.toNat_natCast, Uw, Nat.ble_eq, List.length_append]
   rw [if_pos (by omega), if_pos (by omega), List.append_assoc]
theorem Qal {R : Q0 → Option (List UInt8)} {N : Nat} {l : List Q0} (hb : l.length < 1000000000) (hR : ∀ y ∈ l, R y = some y.inn) : ∀ (n i : Nat), i ≤ l.length → l.length - i < n →
  X2 R N l n (i : Int) ((l.take i).map Q0.inn) = some (l.map Q0.inn)
 | 0, i, _, h => by omega
 | n + 1, i, hi, hn => by
  simp only [X2, Q6, Xo, Z9, Yb]
  by_cases h : i < l.length
  ·rw [if_pos (by omega), List.getElem?_eq_getElem h]
   simp only [Option.bind_some, hR _ (List.getElem_mem h)]
   rw [if_pos (by rw [Nat.ble_eq, List.length_map, List.length_take]; omega), Qq _ (by omega)]
   have e : (l.take i).map Q0.inn ++ [l[i].inn] = (l.take (i + 1)).map Q0.inn := by rw [List.take_succ_eq_append_getElem h, List.map_append]; rfl
   rw [e]
   exact_mod_cast Qal (N := N) hb hR n (i + 1) (by omega) (by omega)
  ·rw [if_neg (by omega), List.take_of_length_le (by omega)]
theorem Q3s {α : Type} (f : Q0 → List α) (l : List Q0) (i : Nat) (h : i < l.length) : ((l.take i).map f).flatten ++ f l[i] = ((l.take (i + 1)).map f).flatten := by
 rw [List.take_succ_eq_append_getElem h, List.map_append, List.flatten_append]; simp
theorem Q8v (f : Q0 → List UInt8) (l : List Q0) (i : Nat) : ((l.take i).map f).flatten.length ≤ (l.map f).flatten.length := by
 conv => rhs; rw [← List.take_append_drop i l, List.map_append, List.flatten_append, List.length_append]
 omega
theorem Q9h {N : Nat} {v : Q0} {ins : List (List UInt8)} {c : Int} (hins : ins = v.Items.map Q0.inn) (hb : v.Items.length < 1000000000) (hl : (v.Items.map fun x => V8 c x x.inn).flatten.length < 1000000000000000000)
  (hR : ∀ y ∈ v.Items, Xx N c y y.inn = some (V8 c y y.inn)) : ∀ (n i : Nat), i ≤ v.Items.length → v.Items.length - i < n →
  Yo N v ins c n (Q8x c :: ((v.Items.take i).map fun x => V8 c x x.inn).flatten) (i : Int) = some (Q8x c :: (v.Items.map fun x => V8 c x x.inn).flatten)
 | 0, i, _, h => by omega
 | n + 1, i, hi, hn => by
  simp only [Yo, Q6, Xo, Z9, Yb]
  by_cases h : i < v.Items.length
  ·have hx : ins[i]? = some v.Items[i].inn := by rw [hins, List.getElem?_map, List.getElem?_eq_getElem h]; rfl
   have hft := Q3s (fun x => V8 c x x.inn) v.Items i h
   have h1 := Q8v (fun x => V8 c x x.inn) v.Items (i + 1)
   rw [← hft, List.length_append] at h1
   rw [if_pos (by omega), List.getElem?_eq_getElem h, hx]
   simp only [Option.bind_some, hR _ (List.getElem_mem h)]
   rw [if_pos (by simp only [Nat.ble_eq, List.length_cons]; omega), Qq _ (by omega), List.cons_append, hft]
   exact_mod_cast Q9h hins hb hl hR n (i + 1) (by omega) (by omega)
  ·rw [if_neg (by omega), List.take_of_length_le (by omega)]
theorem Q9y {R : Q0 → Option (List UInt8)} {N : Nat} {v : Q0} (hk : v.Kind ≠ 25) (hb : v.Items.length < 1000000000) (hl : (v.Items.map Q0.byt).flatten.length < 1000000000000000000)
  (hR : ∀ y ∈ v.Items, R y = some y.byt) : ∀ (n i : Nat), i ≤ v.Items.length → v.Items.length - i < n →
  Zz R N v n ((v.Items.take i).map Q0.byt).flatten (i : Int) = some (v.Items.map Q0.byt).flatten
 | 0, i, _, h => by omega
 | n + 1, i, hi, hn => by
  simp only [Zz, Q6, Xo, Ub, Z9, Yb]
  by_cases h : i < v.Items.length
  ·have hft := Q3s Q0.byt v.Items i h
   have h1 := Q8v Q0.byt v.Items (i + 1)
   rw [← hft, List.length_append] at h1
   rw [if_pos (by omega), if_pos hk, List.getElem?_eq_getElem h]
   simp only [Option.bind_some, hR _ (List.getElem_mem h)]
   rw [if_pos (by simp only [Nat.ble_eq]; omega), Qq _ (by omega), hft]
   exact_mod_cast Q9y (N := N) hk hb hl hR n (i + 1) (by omega) (by omega)
  ·rw [if_neg (by omega), List.take_of_length_le (by omega)]
theorem Qd8 {c : Int} (h : 0 ≤ c ∧ c < 256) : UInt8.ofNat (IntKind.u8.wrap c).toNat = Q8x c := by
 unfold Q8x
 rw [Qss, Int.emod_eq_of_lt h.1 h.2]
theorem Q78 {v : Q0} (hw : v.wgt < 4000000000) : v.inn.length < 1000000000000000000 ∧ (v.Items.map Q0.byt).flatten.length < 1000000000000000000 ∧ (∀ c, (v.Items.map fun x => V8 c x x.inn).flatten.length < 1000000000000000000) ∧ ∀ x ∈ v.Items, x.wgt < 4000000000 := by
 have hwe := v.wgt_eq
 have h1 := (Q32 v).1
 have s1 : ∀ (f : Q0 → List UInt8) (l : List Q0), (∀ x ∈ l, (f x).length ≤ x.wgt) → (l.map f).flatten.length ≤ Q0.wgts l := by
  intro f l
  induction l with
  | nil => intro _; simp
  | cons x l ihl =>
   intro h
   have h1 := h x (.head _)
   have h2 := ihl (fun y hy => h y (.tail _ hy))
   simp only [List.map_cons, List.flatten_cons, List.length_append, Q0.wgts]; omega
 refine ⟨by omega, ?_, fun c => ?_, fun x hx => by have := Qsw hx; omega⟩
 ·have := s1 Q0.byt v.Items (fun x _ => (Q32 x).2.1); omega
 ·have := s1 (fun x => V8 c x x.inn) v.Items (fun x _ => by have := (Q32 x).2.2 c; omega); omega
theorem Qvh (v : Q0) : ∀ m : Int, Fine v → Xa v m = 0 → v.wgt < 4000000000 → v.sz < 1000000000 →
  (∀ N, 3 * v.sz + 300099 ≤ N → W4 N v = some v.inn) ∧ ∀ N, 3 * v.sz + 300100 ≤ N → X4 N v = some v.byt := by
 induction v using Q0.ind with
 | h v ih =>
  intro m hf hc hw hz
  have hs := v.sz_eq
  have hsl := Q0.szs_len v.Items
  obtain ⟨l1, l2, l3, l4⟩ := Q78 hw
  have hit : ∀ x ∈ v.Items, ∃ m', Xa x m' = 0 := fun x hx => by
   rcases Jv hc with ⟨k1, k2, k3⟩ | ⟨_, _, _, _, _, _, k7⟩
   ·rw [(Jd k3).2.2.2.1] at hx; cases hx
   ·exact ⟨_, (k7 x hx).1⟩
  have hsx : ∀ x ∈ v.Items, x.sz + 1 ≤ v.sz := fun x hx => by have := Q0.szs_mem _ x hx; omega
  have hI : ∀ x ∈ v.Items, (∀ N, 3 * x.sz + 300099 ≤ N → W4 N x = some x.inn) ∧ ∀ N, 3 * x.sz + 300100 ≤ N → X4 N x = some x.byt := fun x hx => by
   obtain ⟨m', hm⟩ := hit x hx
   exact ih x hx m' (hf.items x hx) hm (l4 x hx) (by have := hsx x hx; omega)
  have htx := hf.text
  have hW : ∀ N, 3 * v.sz + 300099 ≤ N → W4 N v = some v.inn := by
   intro N hN
   obtain ⟨N, rfl⟩ : ∃ N', N = N' + 2 := ⟨N - 2, by omega⟩
   show Vb (X4 (N + 1)) (W4 (N + 1)) (G8 (N + 1)) (N + 1) v = _
   rw [Qbx]
   simp only [Vb, Q6, Wb]
   by_cases h4 : v.Kind = 24
   ·rw [if_pos h4, if_pos h4]
    rcases Jv hc with ⟨k1, k2, k3⟩ | ⟨k1, k2, k3, k4, k5, k6, k7⟩
    ·omega
    obtain ⟨s1, s2, s3, s4, s5⟩ := Q1t k4
    have hn := s2 h4
    have hin : G8 (N + 1) v.Items = some (v.Items.map Q0.inn) :=
     Qal (R := W4 N) (N := N) (by omega) (fun x hx => (hI x hx).1 N (by have := hsx x hx; omega)) N 0 (by omega) (by omega)
    have hzip : v.Items.zip (v.Items.map Q0.inn) = v.prs := by
     unfold Q0.prs
     have : ∀ l : List Q0, l.zip (l.map Q0.inn) = l.map fun x => (x, x.inn) := by
      intro l
      induction l with
      | nil => rfl
      | cons x l ih => simp [ih]
     exact this _
    have hfi := Qaw (N + 1) v.N' v.Items (v.Items.map Q0.inn) (by simp) (by omega) (by omega) (by omega) (fun p hp => by
     rw [hzip] at hp
     unfold Q0.prs at hp
     obtain ⟨x, hx, rfl⟩ := List.mem_map.1 hp
     have f1 := hf.items x hx
     have f2 := f1.text
     have f3 := (Q32 x).1
     have f4 := l4 x hx
     have f5 := hsx x hx
     have f6 := x.sz_eq
     have f7 := Q0.szs_len x.Items
     have f8 := x.wgt_eq
     exact ⟨f1.num, by simp only []; omega, by simp only []; omega, by simp only []; omega, by simp only []; omega⟩)
    rw [hzip] at hfi
    obtain ⟨e1, _⟩ := Qoz hf hc h4
    obtain ⟨d1, _, _⟩ := Q34 _ _ e1
    rw [hin]
    simp only [Option.bind_some]
    rw [Qq _ (by omega), hfi]
    simp only [Option.bind_some]
    have hel : Q29 v.N' v.prs = v.elm := rfl
    rw [hel, Qd8 (Q5w d1)]
    have := Q9h (N := N + 1) (v := v) (c := v.elm) rfl (by omega) (l3 v.elm) (fun x hx => by
     have f1 := hf.items x hx
     have f2 := f1.text
     have f3 := (Q32 x).1
     have f4 := l4 x hx
     have f5 := hsx x hx
     have f6 := x.sz_eq
     have f7 := Q0.szs_len x.Items
     have f8 := x.wgt_eq
     exact Qdd (N + 1) v.elm x x.inn d1 f1.num (by omega) (by omega) (by omega) (by omega) (by omega)) (N + 1) 0 (by omega) (by omega)
    exact this
   ·rw [if_neg h4, if_neg h4]
    by_cases h5 : v.Kind = 25
    ·rw [if_pos h5]
     simp only [Zz, Q6, Xo, Ub, Z9]
     rw [if_neg (show ¬ (v.Kind ≠ 25) by omega)]
     simp
    ·rw [if_neg h5]
     have := Q9y (R := X4 (N + 1)) (N := N + 1) h5 (by omega) l2 (fun x hx => (hI x hx).2 (N + 1) (by have := hsx x hx; omega)) (N + 1) 0 (by omega) (by omega)
     exact this
  refine ⟨hW, fun N hN => ?_⟩
  obtain ⟨N, rfl⟩ : ∃ N', N = N' + 1 := ⟨N - 1, by omega⟩
  show Vj (X4 N) (W4 N) (G8 N) N v = _
  rw [Qjy]
  simp only [Vj, Q6, Wb]
  by_cases h5 : v.Kind = 25
  ·rw [if_pos h5, if_pos h5]
   rcases Jv hc with ⟨k1, k2, k3⟩ | ⟨k1, k2, k3, k4, k5, k6, k7⟩
   ·omega
   have hl := (Q1t k4).2.2.2.1 h5
   match hI' : v.Items, hl with
   | [x, y], _ =>
    have hx : x ∈ v.Items := by rw [hI']; simp
    have hy : y ∈ v.Items := by rw [hI']; simp
    have e0 : idx [x, y] 0 = some x := rfl
    have e1 : idx [x, y] 1 = some y := rfl
    rw [e0, e1]
    have b1 := (Q32 x).2.1
    have b2 := (Q32 y).2.1
    have b3 := l4 x hx
    have b4 := l4 y hy
    simp only [Option.bind_some, (hI x hx).2 N (by have := hsx x hx; omega), (hI y hy).2 N (by have := hsx y hy; omega)]
    rw [if_pos (by simp only [Nat.ble_eq, List.length_cons, List.length_nil]; omega), if_pos (by simp only [Nat.ble_eq, List.length_append, List.length_cons, List.length_nil]; omega)]
    simp
  ·rw [if_neg h5, if_neg h5, hW N (by omega)]
   simp only [Option.bind_some]
   have hfi := Qaw N v.Kind [v] [v.inn] rfl (by simp) (by simp; omega) (by omega) (fun p hp => by
    have : p = (v, v.inn) := by simpa using hp
    subst this
    exact ⟨hf.num, by simp only []; omega, by simp only []; omega, by simp only []; omega, by simp only []; omega⟩)
   have hz' : [v].zip [v.inn] = [(v, v.inn)] := rfl
   rw [hfi, hz']
   simp only [Option.bind_some]
   have hco : Q29 v.Kind [(v, v.inn)] = v.cod := rfl
   obtain ⟨e1, _⟩ := Qj1 hf hc h5
   obtain ⟨d1, _, _⟩ := Q34 _ _ e1
   have hdl := (Q32 v).2.2 v.cod
   rw [hco, Qdd N v.cod v v.inn d1 hf.num (by omega) (by omega) (by omega) (by omega) (by omega)]
   simp only [Option.bind_some]
   rw [if_pos (by simp only [Nat.ble_eq, List.length_cons, List.length_nil]; omega), Qd8 (Q5w d1)]
   rfl
theorem Qbo (N : Nat) (v : Q0) (m : Int) (hf : Fine v) (hw : v.wgt < 4000000000) (hz : v.sz < 1000000000) (hN : 3 * v.sz + 301000 ≤ N) :
  Wl N v m = some (if G0 v m ≠ 0 then ([], G0 v m) else (v.nrm.byt, 0)) := by
 simp only [Wl, Qg0 N v m hf (by omega) hz, Option.bind_some, Q6, Ub]
 by_cases h : G0 v m = 0
 ·rw [if_neg (by simp [h]), if_neg (by simp [h]), Q69 N v hf (by omega) hz]
  have hc : Xa v m = 0 := by
   unfold G0 at h
   split at h
   ·cases h
   ·exact h
  simp only [Option.bind_some, (Qvh v.nrm m (Qee hf) (Qaq v m hc) (by rw [Qiv]; exact hw) (by rw [Q6r]; exact hz)).2 N (by rw [Q6r]; omega)]
 ·rw [if_pos h, if_pos h]
end
end Go.Av
namespace Go.Av
noncomputable section
open Go.Proofs
set_option maxRecDepth 100000
abbrev Qh8 := Q1
mutual
def Q0.frm : Q0 → Qh8
 | .mk k n t is => ⟨⟨k, n, t, is⟩, Q0.frms is, if k = 24 then Q0.elm ⟨k, n, t, is⟩ else 0, if 22 ≤ k ∧ k ≤ 24 then ((Q0.inn ⟨k, n, t, is⟩).length : Int) else 0⟩
def Q0.frms : List Q0 → List Qh8
 | [] => []
 | v :: l => v.frm :: Q0.frms l
end
theorem Qoc : ∀ l, Q0.frms l = l.map Q0.frm
 | [] => rfl
 | v :: l => by rw [Q0.frms, Qoc l]; rfl
theorem Q9u (v : Q0) : v.frm = ⟨v, v.Items.map Q0.frm, if v.Kind = 24 then v.elm else 0, if 22 ≤ v.Kind ∧ v.Kind ≤ 24 then (v.inn.length : Int) else 0⟩ := by
 cases v; rw [Q0.frm, Qoc]
theorem Qlt (v : Q0) : v.frm.v = v := by rw [Q9u]
theorem Q66 (v : Q0) : v.frm.kids = v.Items.map Q0.frm := by rw [Q9u]
theorem Q21 (l : List Qh8) : (Q1.rows l).length = l.length := by rw [Q1.rows_eq, Jn]
theorem Qr7 (N : Nat) (code : Int) (v : Q0) (hc : ofB code = true) (hn : okU v.N') (h : v.Text.length < N) (hb : v.Text.length < 4611686018427387904) (hk : (ofS code).Kind ≠ 25) (hi : (ofS code).Items = true → 22 ≤ v.Kind ∧ v.Kind ≤ 24) (hl : v.inn.length < 1000000000000000000) :
  Y5 N v.frm code = some (Q4p code v v.inn) := by
 simp only [Y5, Z7, Qlt, Option.bind_some, Qo5 N code v hn h hb, Q6, Wb, Q21, Q66, List.length_map, Q4p]
 by_cases hi' : (ofS code).Items = false
 ·rw [if_pos (by simp [hi']), if_pos hi']
 ·have hi' : (ofS code).Items = true := by simpa using hi'
  rw [if_neg (show ¬ ((!(ofS code).Items) = true) by simp [hi']), if_neg hk, if_neg (show ¬ ((ofS code).Items = false) by simp [hi'])]
  by_cases hs : (ofS code).Sized = true
  ·have hw := ((Uq hc hi').1 hs).1
   rw [if_neg (show ¬ ((!(ofS code).Sized) = true) by simp [hs]), if_neg (show ¬ (ofS code).Width = 0 by omega)]
   by_cases h4 : (ofS code).Width = 4
   ·rw [if_pos h4]; simp [h4]
   ·rw [if_neg h4, Q9u]
    simp only [if_pos (hi hi')]
    rw [Qq _ (by omega)]
    split
    ·rename_i h5
     rw [Q74] at h5
     congr 1
     rw [Bool.eq_iff_iff, Q74]; simp [h4]; omega
    ·rename_i h5
     rw [Q74] at h5
     congr 1
     symm
     rw [decide_eq_false_iff_not]; omega
  ·have hs : (ofS code).Sized = false := by simpa using hs
   rw [if_pos (show (!(ofS code).Sized) = true by simp [hs]), if_pos (Qo8 hc hi' hs)]
   congr 1
   rw [Bool.eq_iff_iff, Wb]; simp
theorem Qeo {N : Nat} {k0 : Int → Option Int} {l : List Qh8} {s54 code : Int} {P : Qh8 → Bool} (hb : l.length < 1000000000) (hR : ∀ f ∈ l, Y5 N f code = some (P f)) : ∀ (n k : Nat) (all : Bool), k ≤ l.length → l.length - k < n →
  Wd N k0 l s54 code n all (k : Int) = if (all && (l.drop k).all P) = true then some code else k0 (IntKind.i64.wrap (s54 + 1))
 | 0, k, all, _, h => by omega
 | n + 1, k, all, hk, hn => by
  simp only [Wd, Q6, Xo, Q21, Yb]
  by_cases h : k < l.length
  ·rw [if_pos (by omega), List.getElem?_eq_getElem h, List.drop_eq_getElem_cons h]
   simp only [Option.bind_some, hR _ (List.getElem_mem h)]
   rw [Qq _ (by omega)]
   cases all with
   | false =>
    have ih := Qeo (N := N) (k0 := k0) (s54 := s54) hb hR n (k + 1) false (by omega) (by omega)
    rw [if_neg (by simp)]
    simp only [Bool.false_and] at ih ⊢
    exact_mod_cast ih
   | true =>
    have ih := Qeo (N := N) (k0 := k0) (s54 := s54) hb hR n (k + 1) (P l[k]) (by omega) (by omega)
    rw [if_pos rfl]
    simp only [List.all_cons, Bool.true_and]
    exact_mod_cast ih
  ·rw [if_neg (by omega), List.drop_of_length_le (by omega)]
   cases all <;> simp
theorem Qjn {N : Nat} {l : List Qh8} {v1 : List Int} {P : Int → Qh8 → Bool} (hb : l.length < 1000000000) (hb1 : v1.length < 1000) (hN : l.length < N) (hR : ∀ c ∈ v1, ∀ f ∈ l, Y5 N f c = some (P c f)) : ∀ (n i : Nat), i ≤ v1.length → v1.length - i < n →
  Xe N l v1 n (i : Int) = some (((v1.drop i).find? (fun c => l.all (P c))).getD 0)
 | 0, i, _, h => by omega
 | n + 1, i, hi, hn => by
  simp only [Xe, Q6, Xo, Jn, Yb]
  by_cases h : i < v1.length
  ·rw [if_pos (by omega), List.getElem?_eq_getElem h]
   simp only [Option.bind_some]
   have := Qeo (k0 := Xe N l v1 n) (s54 := (i : Int)) hb (hR _ (List.getElem_mem h)) N 0 true (by omega) (by omega)
   rw [show (0 : Int) = ((0 : Nat) : Int) from rfl, this, List.drop_zero, Bool.true_and, List.drop_eq_getElem_cons h, List.find?_cons]
   cases l.all (P v1[i]) with
   | true => simp
   | false =>
    rw [if_neg (by simp), Qq _ (by omega)]
    exact_mod_cast Qjn hb hb1 hN hR n (i + 1) (by omega) (by omega)
  ·rw [if_neg (by omega), List.drop_of_length_le (by omega)]; simp
theorem Qke (N : Nat) (k : Int) (l : List Qh8) (P : Int → Qh8 → Bool) (hb : l.length < 1000000000) (hN : l.length < N) (hN2 : 10 < N) (hR : ∀ c ∈ Ux k, ∀ f ∈ l, Y5 N f c = some (P c f)) : U5 N k l = some (((Ux k).find? (fun c => l.all (P c))).getD 0) := by
 have hc := Qdy k
 simp only [U5, Q24, Option.bind_some]
 have := Qjn (N := N) (v1 := Ux k) hb (by omega) hN hR N 0 (by omega) (by omega)
 rw [List.drop_zero] at this
 exact this
theorem Qg1 (N : Nat) (k : Int) (l : List Q0) (hk : k ≠ 25) (hb : l.length < 1000000000) (hN : l.length < N) (hN2 : 10 < N) (hl : ∀ x ∈ l, x.Kind = k ∧ k ≤ 24 ∧ okU x.N' ∧ x.Text.length < N ∧ x.Text.length < 4611686018427387904 ∧ x.inn.length < 1000000000000000000) :
  U5 N k (l.map Q0.frm) = some (Q29 k (l.map fun x => (x, x.inn))) := by
 rw [Qke N k (l.map Q0.frm) (fun c f => Q4p c f.v f.v.inn) (by simpa using hb) (by simpa using hN) hN2 (fun c hc f hf => by
  obtain ⟨x, hx, rfl⟩ := List.mem_map.1 hf
  obtain ⟨h1, h2, h3, h4, h5, h6⟩ := hl x hx
  obtain ⟨d1, d2, d3⟩ := Q34 _ _ hc
  rw [Qlt]
  exact Qr7 N c x d1 h3 h4 h5 (by omega) (fun hi => by rw [(Qbs c d1).items, d3] at hi; simp at hi; omega) h6)]
 unfold Q29 Qm3
 congr 3
 funext c
 rw [List.all_map, List.all_map]
 congr 1
 funext x
 simp only [Function.comp, Qlt]
theorem Qp4 : Ux 25 = [0] := by decide +kernel
theorem Qdz (N : Nat) (v : Q0) (m : Int) (hf : Fine v) (hc : Xa v m = 0) (hw : v.wgt < 4000000000) (hN : 300100 ≤ N) : Xs N v.frm = some (if v.Kind = 25 then 0 else v.cod) := by
 have ht := hf.text
 have hk := Q67 hc
 simp only [Xs, Qlt]
 by_cases h5 : v.Kind = 25
 ·rw [if_pos h5, h5, Qke N 25 [v.frm] (fun _ _ => true) (by simp) (by simp; omega) (by omega) (fun c hc f hf => by
   rw [Qp4] at hc
   have : c = 0 := by simpa using hc
   subst this
   obtain ⟨o1, o2, o3⟩ := of0
   simp only [Y5, Z7, Option.bind_some, Q6, Wb]
   rw [if_neg (by simp [o3]), if_pos o2]), Qp4]
  rfl
 ·rw [if_neg h5]
  have := Qg1 N v.Kind [v] h5 (by simp) (by simp; omega) (by omega) (fun x hx => by
   have : x = v := by simpa using hx
   subst this
   exact ⟨rfl, by omega, hf.num, by omega, by omega, (Q78 hw).1⟩)
  rw [show [v.frm] = [v].map Q0.frm from rfl, this]
  rfl
def Q1i (s : List UInt8) : List Int := s.map fun b => (b.toNat : Int)
theorem Q4e (s t : List UInt8) : Q1i (s ++ t) = Q1i s ++ Q1i t := by simp [Q1i]
theorem Q2v (s : List UInt8) : (Q1i s).length = s.length := by simp [Q1i]
theorem Qnc (N : Nat) (b : List Int) (s : List UInt8) (h : b.length + s.length < 17592186040000) : Wk N ⟨b⟩ s = some ((), ⟨b ++ Q1i s⟩) := by
 simp only [Wk, Q6]
 split
 ·rename_i h1
  have : s = [] := List.length_eq_zero_iff.1 (by simpa using h1)
  subst this
  simp [Q1i]
 ·rw [if_pos (by rw [Nat.ble_eq]; omega)]; rfl
theorem Q3k (N : Nat) (b : List Int) (n w : Nat) (hn : n < 9223372036854775808) (hw : w ≤ 8) (hN : 10 < N) (h : b.length < 17592186030000) : Za N ⟨b⟩ (n : Int) (w : Int) = some ((), ⟨b ++ Q1i (Q1a n w)⟩) := by
 simp only [Za]
 rw [Q13 _ (by omega), Qis N n w (by omega) hw hN]
 simp only [Option.bind_some]
 rw [Qnc N b _ (by rw [Uw]; omega)]
 rfl
theorem Qvb {c : Int} (h : 0 ≤ c ∧ c < 256) : Q1a c.toNat 1 = [Q8x c] := by
 rw [Q95]
 simp only [Nat.pow_zero, Nat.div_one, Q1a, Q8x]
 rw [Nat.mod_eq_of_lt (by omega)]
theorem Qvv {R : Q2 → Qh8 → Option (Unit × Q2)} {N : Nat} {f : Qh8} {l : List Q0} (hk : f.kids = l.map Q0.frm) (hb : l.length < 1000000000) {b : List Int} (hbl : b.length + (l.map Q0.byt).flatten.length < 17592186030000)
  (hR : ∀ x ∈ l, ∀ b : List Int, b.length + x.byt.length < 17592186030000 → R ⟨⟨b⟩⟩ x.frm = some ((), ⟨⟨b ++ Q1i x.byt⟩⟩)) : ∀ (n i : Nat), i ≤ l.length → l.length - i < n →
  Yl R N f n (i : Int) (b ++ Q1i ((l.take i).map Q0.byt).flatten) = some ((), ⟨⟨b ++ Q1i (l.map Q0.byt).flatten⟩⟩) ∧
  Yp R N f n (i : Int) (b ++ Q1i ((l.take i).map Q0.byt).flatten) = some ((), ⟨⟨b ++ Q1i (l.map Q0.byt).flatten⟩⟩)
 | 0, i, _, h => by omega
 | n + 1, i, hi, hn => by
  simp only [Yl, Yp, Q6, Xo, Q21, hk, List.length_map, Yb, List.getElem?_map]
  by_cases h : i < l.length
  ·have hft := Q3s Q0.byt l i h
   have h1 := Q8v Q0.byt l (i + 1)
   rw [← hft, List.length_append] at h1
   rw [if_pos (by omega), if_pos (by omega), List.getElem?_eq_getElem h]
   simp only [Option.map_some, Option.bind_some, hR _ (List.getElem_mem h) _ (show (b ++ Q1i ((l.take i).map Q0.byt).flatten).length + l[i].byt.length < 17592186030000 by rw [List.length_append, Q2v]; omega)]
   rw [Qq _ (by omega), List.append_assoc, ← Q4e, hft]
   obtain ⟨ih1, ih2⟩ := Qvv (N := N) hk hb hbl hR n (i + 1) (by omega) (by omega)
   exact ⟨by exact_mod_cast ih1, by exact_mod_cast ih2⟩
  ·rw [if_neg (by omega), if_neg (by omega), List.take_of_length_le (by omega)]
   exact ⟨rfl, rfl⟩
theorem Qxm {R : Q2 → Int → Qh8 → Option (Unit × Q2)} {N : Nat} {f : Qh8} {l : List Q0} {c : Int} (hk : f.kids = l.map Q0.frm) (hel : f.element = c) (hb : l.length < 1000000000) {b : List Int} (hbl : b.length + (l.map fun x => V8 c x x.inn).flatten.length < 17592186030000)
  (hR : ∀ x ∈ l, ∀ b : List Int, b.length + (V8 c x x.inn).length < 17592186030000 → R ⟨⟨b⟩⟩ c x.frm = some ((), ⟨⟨b ++ Q1i (V8 c x x.inn)⟩⟩)) : ∀ (n i : Nat), i ≤ l.length → l.length - i < n →
  Yn R N f n (i : Int) (b ++ Q1i ((l.take i).map fun x => V8 c x x.inn).flatten) = some ((), ⟨⟨b ++ Q1i (l.map fun x => V8 c x x.inn).flatten⟩⟩)
 | 0, i, _, h => by omega
 | n + 1, i, hi, hn => by
  simp only [Yn, Q6, Xo, Q21, hk, hel, List.length_map, Yb, List.getElem?_map]
  by_cases h : i < l.length
  ·have hft := Q3s (fun x => V8 c x x.inn) l i h
   have h1 := Q8v (fun x => V8 c x x.inn) l (i + 1)
   rw [← hft, List.length_append] at h1
   rw [if_pos (by omega), List.getElem?_eq_getElem h]
   simp only [Option.map_some, Option.bind_some, hR _ (List.getElem_mem h) _ (show (b ++ Q1i ((l.take i).map fun x => V8 c x x.inn).flatten).length + (V8 c l[i] l[i].inn).length < 17592186030000 by rw [List.length_append, Q2v]; omega)]
   rw [Qq _ (by omega), List.append_assoc, ← Q4e, hft]
   exact_mod_cast Qxm (N := N) hk hel hb hbl hR n (i + 1) (by omega) (by omega)
  ·rw [if_neg (by omega), List.take_of_length_le (by omega)]
theorem Qms {code : Int} (h : ofB code = true) (hi : (ofS code).Items = true) (hs : (ofS code).Sized = true) : ∃ w : Nat, (ofS code).Width = (w : Int) ∧ w ≤ 4 := by
 rcases ((Uq h hi).1 hs).1 with h | h
 ·exact ⟨1, h, by omega⟩
 ·exact ⟨4, h, by omega⟩
def WP (v : Q0) : Prop :=
  (∀ c, (ofB c = true ∧ (ofS c).Kind = v.Kind ∧ v.Kind ≠ 25 ∧ Q4p c v v.inn = true) → ∀ N, 2 * v.sz + 300999 ≤ N → ∀ b : List Int, b.length + (V8 c v v.inn).length < 17592186030000 → W7 N ⟨⟨b⟩⟩ c v.frm = some ((), ⟨⟨b ++ Q1i (V8 c v v.inn)⟩⟩)) ∧
  ∀ N, 2 * v.sz + 301000 ≤ N → ∀ b : List Int, b.length + v.byt.length < 17592186030000 → Ze N ⟨⟨b⟩⟩ v.frm = some ((), ⟨⟨b ++ Q1i v.byt⟩⟩)
theorem Qnw (v : Q0) : ∀ m : Int, Fine v → Xa v m = 0 → v.wgt < 4000000000 → v.sz < 1000000000 → WP v := by
 induction v using Q0.ind with
 | h v ih =>
  intro m hf hc hw hz
  have hs := v.sz_eq
  have hsl := Q0.szs_len v.Items
  obtain ⟨l1, l2, l3, l4⟩ := Q78 hw
  have htx := hf.text
  have hit : ∀ x ∈ v.Items, ∃ m', Xa x m' = 0 := fun x hx => by
   rcases Jv hc with ⟨k1, k2, k3⟩ | ⟨_, _, _, _, _, _, k7⟩
   ·rw [(Jd k3).2.2.2.1] at hx; cases hx
   ·exact ⟨_, (k7 x hx).1⟩
  have hsx : ∀ x ∈ v.Items, x.sz + 1 ≤ v.sz := fun x hx => by have := Q0.szs_mem _ x hx; omega
  have hI : ∀ x ∈ v.Items, WP x := fun x hx => by
   obtain ⟨m', hm⟩ := hit x hx
   exact ih x hx m' (hf.items x hx) hm (l4 x hx) (by have := hsx x hx; omega)
  have hP : ∀ c, (ofB c = true ∧ (ofS c).Kind = v.Kind ∧ v.Kind ≠ 25 ∧ Q4p c v v.inn = true) → ∀ N, 2 * v.sz + 300999 ≤ N → ∀ b : List Int, b.length + (V8 c v v.inn).length < 17592186030000 → W7 N ⟨⟨b⟩⟩ c v.frm = some ((), ⟨⟨b ++ Q1i (V8 c v v.inn)⟩⟩) := by
   rintro c ⟨c1, c2, c3, c4⟩ N hN b hb
   obtain ⟨N, rfl⟩ : ∃ N', N = N' + 1 := ⟨N - 1, by omega⟩
   show Yr (Ze N) (W7 N) N ⟨⟨b⟩⟩ c v.frm = _
   simp only [Yr, Z7, Qlt, Option.bind_some, Q6, Wb, Q21, Q66, List.length_map]
   have hd : V8 c v v.inn = if (ofS c).Items = false then (Qpk c v).1 else if (ofS c).Sized = false then [] else Q1a (v.inn.length + (ofS c).Width.toNat) (ofS c).Width.toNat ++ (Q1a v.Items.length (ofS c).Width.toNat ++ v.inn) := rfl
   by_cases hi : (ofS c).Items = false
   ·rw [if_pos (by simp [hi]), Qvg N c v hf.num (by omega) (by omega) (by omega)]
    rw [if_pos hi] at hd
    rw [hd] at hb ⊢
    simp only [Option.bind_some]
    rw [Qnc N b _ (by omega)]
    rfl
   ·have hi : (ofS c).Items = true := by simpa using hi
    rw [if_neg (by simp [hi])]
    rw [if_neg (by simp [hi])] at hd
    have hkk : 22 ≤ v.Kind ∧ v.Kind ≤ 24 := by
     have h1 := hi
     rw [(Qbs c c1).items, c2] at h1
     have := Q67 hc
     simp at h1; omega
    by_cases hs' : (ofS c).Sized = true
    ·rw [if_pos hs']
     rw [if_neg (by simp [hs'])] at hd
     obtain ⟨w, hw1, hw2⟩ := Qms c1 hi hs'
     rw [hw1, Int.toNat_natCast] at hd
     rw [hd] at hb ⊢
     simp only [List.length_append, Uw] at hb
     have hin : v.frm.inner = (v.inn.length : Int) := by rw [Q9u]; simp only [if_pos hkk]
     rw [hw1, hin, Qq _ (by omega), show ((w : Int) + (v.inn.length : Int)) = ((v.inn.length + w : Nat) : Int) by push_cast; omega,
      Q3k N b _ w (by omega) (by omega) (by omega) (by omega)]
     simp only [Option.bind_some]
     rw [Q3k N _ _ w (by omega) (by omega) (by omega) (by rw [List.length_append, Q2v, Uw]; omega)]
     simp only [Option.bind_some, c2]
     by_cases h4 : v.Kind = 24
     ·rw [if_pos h4]
      obtain ⟨e1, e2⟩ := Qoz hf hc h4
      obtain ⟨d1, d2, d3⟩ := Q34 _ _ e1
      have hr := Q5w d1
      have hel : v.frm.element = v.elm := by rw [Q9u]; simp only [if_pos h4]
      have hin2 := Qbx v
      rw [if_pos h4] at hin2
      have hl2 := congrArg List.length hin2
      simp only [List.length_cons] at hl2
      rw [hel, show v.elm = ((v.elm.toNat : Nat) : Int) by omega, show (1 : Int) = ((1 : Nat) : Int) from rfl,
       Q3k N _ _ 1 (by omega) (by omega) (by omega) (by simp only [List.length_append, Q2v, Uw]; omega)]
      simp only [Option.bind_some]
      rw [Qvb hr]
      rcases Jv hc with ⟨k1, k2, k3⟩ | ⟨k1, k2, k3, k4, k5, k6, k7⟩
      ·omega
      have hnn := (Q1t k4).2.1 h4
      have := Qxm (R := W7 N) (N := N) (f := v.frm) (l := v.Items) (c := v.elm) (Q66 v) hel (by omega) (b := b ++ Q1i (Q1a (v.inn.length + w) w) ++ Q1i (Q1a v.Items.length w) ++ Q1i [Q8x v.elm])
       (by simp only [List.length_append, Q2v, Uw, List.length_cons, List.length_nil]; omega)
       (fun x hx b' hb' => (hI x hx).1 v.elm ⟨d1, by
        have := (k7 x hx).2 h4
        rw [Q5m (k7 x hx).1] at this
        rw [d3, this], by
        have := (k7 x hx).2 h4
        rw [Q5m (k7 x hx).1] at this
        omega, e2 x hx⟩ N (by have := hsx x hx; omega) b' hb') N 0 (by omega) (by omega)
      simp only [List.take_zero, List.map_nil, List.flatten_nil, Q1i, List.append_nil] at this
      have e : (b ++ Q1i (Q1a (v.inn.length + w) w) ++ Q1i (Q1a v.Items.length w) ++ Q1i [Q8x v.elm] ++ Q1i ((v.Items.map fun x => V8 v.elm x x.inn).flatten)) = b ++ Q1i (Q1a (v.inn.length + w) w ++ (Q1a v.Items.length w ++ v.inn)) := by
       have hi3 : Q1i v.inn = Q1i [Q8x v.elm] ++ Q1i ((v.Items.map fun x => V8 v.elm x x.inn).flatten) := by rw [← Q4e]; exact congrArg Q1i hin2
       rw [Q4e, Q4e, hi3]
       simp only [List.append_assoc]
      rw [← e]
      exact this
     ·rw [if_neg h4]
      have hin2 := Qbx v
      rw [if_neg h4, if_neg c3] at hin2
      have hl2 := congrArg List.length hin2
      have := (Qvv (R := Ze N) (N := N) (f := v.frm) (l := v.Items) (Q66 v) (by omega) (b := b ++ Q1i (Q1a (v.inn.length + w) w) ++ Q1i (Q1a v.Items.length w))
       (by simp only [List.length_append, Q2v, Uw]; omega)
       (fun x hx b' hb' => (hI x hx).2 N (by have := hsx x hx; omega) b' hb') N 0 (by omega) (by omega)).1
      simp only [List.take_zero, List.map_nil, List.flatten_nil, Q1i, List.append_nil] at this
      have e : (b ++ Q1i (Q1a (v.inn.length + w) w) ++ Q1i (Q1a v.Items.length w) ++ Q1i (v.Items.map Q0.byt).flatten) = b ++ Q1i (Q1a (v.inn.length + w) w ++ (Q1a v.Items.length w ++ v.inn)) := by
       rw [Q4e, Q4e, ← hin2]
       simp only [List.append_assoc]
      rw [← e]
      exact this
    ·have hs' : (ofS c).Sized = false := by simpa using hs'
     rw [if_neg (by simp [hs'])]
     rw [if_pos hs'] at hd
     have hk := (Uq c1 hi).2 hs'
     unfold Q4p at c4
     rw [if_neg (by simp [hi]), if_pos (Qo8 c1 hi hs')] at c4
     have hl0 : v.Items = [] := List.length_eq_zero_iff.1 (by simpa using c4)
     rw [hd, if_neg (by omega)]
     have := (Qvv (R := Ze N) (N := N) (f := v.frm) (l := v.Items) (Q66 v) (by omega) (b := b) (by rw [hl0]; simp; omega) (fun x hx => by rw [hl0] at hx; cases hx) N 0 (by omega) (by omega)).2
     rw [hl0] at this
     simpa [Q1i] using this
  refine ⟨hP, fun N hN b hb => ?_⟩
  obtain ⟨N, rfl⟩ : ∃ N', N = N' + 1 := ⟨N - 1, by omega⟩
  show Wv (Ze N) (W7 N) N ⟨⟨b⟩⟩ v.frm = _
  simp only [Wv, Qdz N v m hf hc hw (by omega), Option.bind_some]
  have hbe := Qjy v
  have hbl := congrArg List.length hbe
  by_cases h5 : v.Kind = 25
  ·rw [if_pos h5] at hbe hbl ⊢
   simp only [List.length_cons] at hbl
   have hn := Q3k N b 0 1 (by omega) (by omega) (by omega) (by omega)
   rw [show ((0 : Nat) : Int) = 0 from rfl, show ((1 : Nat) : Int) = 1 from rfl] at hn
   rw [hn]
   simp only [Option.bind_some]
   obtain ⟨N, rfl⟩ : ∃ N', N = N' + 1 := ⟨N - 1, by omega⟩
   show ((Yr (Ze N) (W7 N) N ⟨⟨b ++ Q1i (Q1a 0 1)⟩⟩ 0 v.frm).bind _) = _
   obtain ⟨o1, o2, o3⟩ := of0
   have o4 : (ofS 0).Sized = false := by decide +kernel
   simp only [Yr, Z7, Option.bind_some, Q6, Wb]
   rw [if_neg (by simp [o3]), if_neg (by simp [o4]), if_neg (by omega)]
   have := (Qvv (R := Ze N) (N := N) (f := v.frm) (l := v.Items) (Q66 v) (by omega) (b := b ++ Q1i (Q1a 0 1))
    (by simp only [List.length_append, Q2v, Uw]; omega)
    (fun x hx b' hb' => (hI x hx).2 N (by have := hsx x hx; omega) b' hb') N 0 (by omega) (by omega)).2
   simp only [List.take_zero, List.map_nil, List.flatten_nil, Q1i, List.append_nil] at this
   have h0 : (((0 : Nat) : Int)) = 0 := rfl
   rw [h0] at this
   simp only [Q1i] at *
   rw [this]
   simp only [Option.bind_some]
   rw [hbe]
   simp [Q1a]
  ·rw [if_neg h5] at hbe hbl ⊢
   simp only [List.length_cons] at hbl
   obtain ⟨g1, g2⟩ := Qj1 hf hc h5
   obtain ⟨d1, d2, d3⟩ := Q34 _ _ g1
   have hr := Q5w d1
   have hn := Q3k N b v.cod.toNat 1 (by omega) (by omega) (by omega) (by omega)
   rw [Qvb hr, show ((v.cod.toNat : Nat) : Int) = v.cod by omega, show ((1 : Nat) : Int) = 1 from rfl] at hn
   rw [hn]
   simp only [Option.bind_some]
   rw [hP v.cod ⟨d1, d3, h5, g2⟩ N (by omega) _ (by rw [List.length_append, Q2v]; simp; omega)]
   simp only [Option.bind_some]
   rw [hbe]
   simp [Q1i]
end
end Go.Av
namespace Go.Av
noncomputable section
open Go.Proofs
set_option maxRecDepth 100000
theorem Qod (v : Q0) : v.byt.length = 1 + (if v.Kind = 25 then (v.Items.map Q0.byt).flatten.length else (V8 v.cod v v.inn).length) := by
 rw [Qjy]
 split <;> simp <;> omega
theorem Qj5 {R : Qh8 → Int → Option Int} {N : Nat} {f : Qh8} {l : List Q0} (hk : f.kids = l.map Q0.frm) (hb : l.length < 1000000000) (hl : (l.map Q0.byt).flatten.length < 1000000000000000000) (hN : 300100 ≤ N)
  (hv : ∀ x ∈ l, (∃ m, Xa x m = 0) ∧ Fine x ∧ x.wgt < 4000000000) (hR : ∀ x ∈ l, R x.frm (if x.Kind = 25 then 0 else x.cod) = some ((if x.Kind = 25 then (x.Items.map Q0.byt).flatten.length else (V8 x.cod x x.inn).length : Nat) : Int)) : ∀ (n i : Nat), i ≤ l.length → l.length - i < n →
  Yu R N f n (((l.take i).map Q0.byt).flatten.length : Nat) (i : Int) = some (((l.map Q0.byt).flatten.length : Nat) : Int)
 | 0, i, _, h => by omega
 | n + 1, i, hi, hn => by
  simp only [Yu, Q6, Xo, Q21, hk, List.length_map, Yb, List.getElem?_map]
  by_cases h : i < l.length
  ·have hft := Q3s Q0.byt l i h
   have h1 := Q8v Q0.byt l (i + 1)
   rw [← hft, List.length_append] at h1
   obtain ⟨⟨m, h2⟩, h3, h4⟩ := hv _ (List.getElem_mem h)
   rw [if_pos (by omega), List.getElem?_eq_getElem h]
   simp only [Option.map_some, Option.bind_some, Qdz N l[i] m h3 h2 h4 hN, hR _ (List.getElem_mem h)]
   have hbl := Qod l[i]
   have e : (((l.take i).map Q0.byt).flatten.length : Int) + IntKind.i64.wrap (1 + ((if l[i].Kind = 25 then (l[i].Items.map Q0.byt).flatten.length else (V8 l[i].cod l[i] l[i].inn).length : Nat) : Int)) = ((((l.take (i + 1)).map Q0.byt).flatten.length : Nat) : Int) := by
    rw [← hft, List.length_append, hbl]
    rw [Qq _ (by omega)]
    push_cast; rfl
   rw [e, Qq _ (by rw [← hft, List.length_append]; omega), Qq _ (by omega)]
   exact_mod_cast Qj5 (N := N) hk hb hl hN hv hR n (i + 1) (by omega) (by omega)
  ·rw [if_neg (by omega), List.take_of_length_le (by omega)]
def FP (v : Q0) : Prop :=
 (∀ N, 2 * v.sz + 301000 ≤ N → ∀ c, (ofB c = true ∧ (ofS c).Kind = v.Kind ∧ v.Kind ≠ 25 ∧ Q4p c v v.inn = true) → Y4 N v.frm c = some ((V8 c v v.inn).length : Int)) ∧
 (∀ N, 2 * v.sz + 301000 ≤ N → v.Kind = 25 → Y4 N v.frm 0 = some ((v.Items.map Q0.byt).flatten.length : Int)) ∧
 ∀ N, 2 * v.sz + 300999 ≤ N → ∀ e i, Zv N ⟨v, v.Items.map Q0.frm, e, i⟩ = some ((v.Items.map Q0.byt).flatten.length : Int)
theorem Qia (v : Q0) : ∀ m : Int, Fine v → Xa v m = 0 → v.wgt < 4000000000 → v.sz < 1000000000 → FP v := by
 induction v using Q0.ind with
 | h v ih =>
  intro m hf hc hw hz
  have hs := v.sz_eq
  have hsl := Q0.szs_len v.Items
  obtain ⟨l1, l2, l3, l4⟩ := Q78 hw
  have htx := hf.text
  have hit : ∀ x ∈ v.Items, ∃ m', Xa x m' = 0 := fun x hx => by
   rcases Jv hc with ⟨k1, k2, k3⟩ | ⟨_, _, _, _, _, _, k7⟩
   ·rw [(Jd k3).2.2.2.1] at hx; cases hx
   ·exact ⟨_, (k7 x hx).1⟩
  have hsx : ∀ x ∈ v.Items, x.sz + 1 ≤ v.sz := fun x hx => by have := Q0.szs_mem _ x hx; omega
  have hI : ∀ x ∈ v.Items, FP x := fun x hx => by
   obtain ⟨m', hm⟩ := hit x hx
   exact ih x hx m' (hf.items x hx) hm (l4 x hx) (by have := hsx x hx; omega)
  have hW : ∀ N, 2 * v.sz + 300999 ≤ N → ∀ e i, Zv N ⟨v, v.Items.map Q0.frm, e, i⟩ = some ((v.Items.map Q0.byt).flatten.length : Int) := by
   intro N hN e i
   obtain ⟨N, rfl⟩ : ∃ N', N = N' + 1 := ⟨N - 1, by omega⟩
   have := Qj5 (R := Y4 N) (N := N) (f := ⟨v, v.Items.map Q0.frm, e, i⟩) (l := v.Items) rfl (by omega) l2 (by omega) (fun x hx => ⟨hit x hx, hf.items x hx, l4 x hx⟩) (fun x hx => by
    obtain ⟨p1, p2, _⟩ := hI x hx
    obtain ⟨m', hm⟩ := hit x hx
    have := hsx x hx
    by_cases h5 : x.Kind = 25
    ·rw [if_pos h5, if_pos h5]; exact p2 N (by omega) h5
    ·rw [if_neg h5, if_neg h5]
     obtain ⟨g1, g2⟩ := Qj1 (hf.items x hx) hm h5
     obtain ⟨d1, d2, d3⟩ := Q34 _ _ g1
     exact p1 N (by omega) x.cod ⟨d1, d3, h5, g2⟩) N 0 (by omega) (by omega)
   exact this
  refine ⟨fun N hN c hcc => ?_, fun N hN h5 => ?_, hW⟩
  ·obtain ⟨c1, c2, c3, c4⟩ := hcc
   obtain ⟨N, rfl⟩ : ∃ N', N = N' + 1 := ⟨N - 1, by omega⟩
   show Xp (Y4 N) (Zv N) N v.frm c = _
   simp only [Xp, Z7, Option.bind_some, Q6, Wb, Qlt]
   rw [if_neg (by omega)]
   have hww := Qks c
   by_cases hi : (ofS c).Items = true
   ·rw [if_pos hi]
    have hkk : 22 ≤ v.Kind ∧ v.Kind ≤ 24 := by
     have h1 := hi
     rw [(Qbs c c1).items, c2] at h1
     have := Q67 hc
     simp at h1; omega
    by_cases hs' : (ofS c).Sized = true
    ·rw [if_pos hs']
     have hin : v.frm.inner = (v.inn.length : Int) := by rw [Q9u]; simp only [if_pos hkk]
     have hd : (V8 c v v.inn).length = (ofS c).Width.toNat + ((ofS c).Width.toNat + v.inn.length) := by
      unfold V8
      rw [if_neg (by simp [hi]), if_neg (by simp [hs'])]
      simp [Uw]
     rw [hin, hd, Qq (2 * (ofS c).Width) (by omega), Qq _ (by omega)]
     congr 1
     omega
    ·have hs' : (ofS c).Sized = false := by simpa using hs'
     rw [if_neg (by simp [hs']), Qo8 c1 hi hs']
     have hd : V8 c v v.inn = [] := by
      unfold V8
      rw [if_neg (by simp [hi]), if_pos hs']
     rw [hd]; rfl
   ·have hi : (ofS c).Items = false := by simpa using hi
    rw [if_neg (by simp [hi])]
    have hf' : Q1q c v = true := by unfold Q4p at c4; rw [if_pos hi] at c4; exact c4
    have hd : V8 c v v.inn = Q0z (ofS c) v := by unfold V8; rw [if_pos hi, Quu hf']
    have hl := Q6d hf'
    rw [hd, hl]
    by_cases hs' : (ofS c).Sized = true
    ·rw [if_pos hs', if_pos hs', Qq _ (by omega)]
     congr 1; push_cast; omega
    ·rw [if_neg hs', if_neg hs']
     congr 1; push_cast; omega
  ·obtain ⟨N, rfl⟩ : ∃ N', N = N' + 1 := ⟨N - 1, by omega⟩
   show Xp (Y4 N) (Zv N) N v.frm 0 = _
   obtain ⟨o1, o2, o3⟩ := of0
   simp only [Xp, Z7, Option.bind_some, Q6, Wb]
   rw [if_pos o2]
   rw [Q9u, hW N (by omega)]
   rfl
theorem Qjz {N : Nat} {f : Qh8} {l : List Q0} {c : Int} (hk : f.kids = l.map Q0.frm) (he : f.element = c) (hb : l.length < 1000000000) (hl : (l.map fun x => V8 c x x.inn).flatten.length < 1000000000000000000)
  (hR : ∀ x ∈ l, Y4 N x.frm c = some ((V8 c x x.inn).length : Int)) : ∀ (n i : Nat), i ≤ l.length → l.length - i < n →
  X1 N f n ((1 + ((l.take i).map fun x => V8 c x x.inn).flatten.length : Nat) : Int) (i : Int) = some ((1 + (l.map fun x => V8 c x x.inn).flatten.length : Nat) : Int)
 | 0, i, _, h => by omega
 | n + 1, i, hi, hn => by
  simp only [X1, Q6, Xo, Q21, hk, he, List.length_map, Yb, List.getElem?_map]
  by_cases h : i < l.length
  ·have hft := Q3s (fun x => V8 c x x.inn) l i h
   have h1 := Q8v (fun x => V8 c x x.inn) l (i + 1)
   rw [← hft, List.length_append] at h1
   rw [if_pos (by omega), List.getElem?_eq_getElem h]
   simp only [Option.map_some, Option.bind_some, hR _ (List.getElem_mem h)]
   have e : ((1 + ((l.take i).map fun x => V8 c x x.inn).flatten.length : Nat) : Int) + ((V8 c l[i] l[i].inn).length : Int) = ((1 + ((l.take (i + 1)).map fun x => V8 c x x.inn).flatten.length : Nat) : Int) := by
    rw [← hft, List.length_append]
    push_cast; omega
   rw [e, Qq _ (by rw [← hft, List.length_append]; omega), Qq _ (by omega)]
   exact_mod_cast Qjz (N := N) hk he hb hl hR n (i + 1) (by omega) (by omega)
  ·rw [if_neg (by omega), List.take_of_length_le (by omega)]
theorem Qgw {R : Q0 → Option Qh8} {N : Nat} {v : Q0} {m : Int} (hf : Fine v) (hc : Xa v m = 0) (hw : v.wgt < 4000000000) (hz : v.sz < 1000000000) (hN : 2 * v.sz + 301000 ≤ N) (hR : ∀ x ∈ v.Items, R x = some x.frm) : ∀ (n i : Nat), i ≤ v.Items.length → v.Items.length - i < n →
  V1 R N v n (i : Int) ((v.Items.take i).map Q0.frm) = some v.frm
 | 0, i, _, h => by omega
 | n + 1, i, hi, hn => by
  have hs := v.sz_eq
  have hsl := Q0.szs_len v.Items
  simp only [V1, Q6, Xo, Wb, Z9, Yb]
  by_cases h : i < v.Items.length
  ·rw [if_pos (by omega), List.getElem?_eq_getElem h]
   simp only [Option.bind_some, hR _ (List.getElem_mem h)]
   rw [if_pos (by rw [Nat.ble_eq, List.length_map, List.length_take]; omega), Qq _ (by omega)]
   have e : (v.Items.take i).map Q0.frm ++ [v.Items[i].frm] = (v.Items.take (i + 1)).map Q0.frm := by
    rw [List.take_succ_eq_append_getElem h, List.map_append]; rfl
   rw [e]
   exact_mod_cast Qgw hf hc hw hz hN hR n (i + 1) (by omega) (by omega)
  ·rw [if_neg (by omega), List.take_of_length_le (by omega)]
   obtain ⟨l1, l2, l3, l4⟩ := Q78 hw
   obtain ⟨_, _, hW⟩ := Qia v m hf hc hw hz
   have hfe := Q9u v
   by_cases h4 : v.Kind = 24
   ·rcases Jv hc with ⟨k1, k2, k3⟩ | ⟨k1, k2, k3, k4, k5, k6, k7⟩
    ·omega
    have hnn := (Q1t k4).2.1 h4
    rw [if_pos h4, Qq _ (by omega), Qg1 N v.N' v.Items (by omega) (by omega) (by omega) (by omega) (fun x hx => by
     have f1 := hf.items x hx
     have f2 := f1.text
     have f3 := (Q78 (l4 x hx)).1
     have := (k7 x hx).2 h4
     rw [Q5m (k7 x hx).1] at this
     exact ⟨this, by omega, f1.num, by omega, by omega, f3⟩)]
    have hel : Q29 v.N' (v.Items.map fun x => (x, x.inn)) = v.elm := rfl
    obtain ⟨e1, e2⟩ := Qoz hf hc h4
    obtain ⟨d1, d2, d3⟩ := Q34 _ _ e1
    have := Qjz (N := N) (f := ⟨v, v.Items.map Q0.frm, v.elm, 0⟩) (l := v.Items) (c := v.elm) rfl rfl (by omega) (l3 v.elm) (fun x hx => by
     have := (k7 x hx).2 h4
     rw [Q5m (k7 x hx).1] at this
     exact (Qia x _ (hf.items x hx) (k7 x hx).1 (l4 x hx) (by have := Q0.szs_mem _ x hx; omega)).1 N (by have := Q0.szs_mem _ x hx; omega) v.elm ⟨d1, by rw [d3, this], by omega, e2 x hx⟩) N 0 (by omega) (by omega)
    have hal : Vk N ⟨v, v.Items.map Q0.frm, v.elm, 0⟩ = some (v.inn.length : Int) := by
     have hin := Qbx v
     rw [if_pos h4] at hin
     have hil : v.inn.length = 1 + (v.Items.map fun x => V8 v.elm x x.inn).flatten.length := by rw [hin]; simp; omega
     rw [hil]; exact this
    simp only [Option.bind_some, hel, h4, hal]
    rw [if_neg (by decide), if_neg (by decide), if_pos (by decide), hfe]
    simp only [h4]
    rfl
   ·rw [if_neg h4]
    by_cases h2 : v.Kind = 22
    ·rw [if_pos (by simp [h2]), hW N (by omega), hfe]
     have hin := Qbx v
     rw [if_neg h4, if_neg (by omega)] at hin
     rw [hin]
     simp only [Option.bind_some, h2]
     rfl
    ·rw [if_neg (by simpa using h2)]
     by_cases h3 : v.Kind = 23
     ·rw [if_pos (by simp [h3]), hW N (by omega), hfe]
      have hin := Qbx v
      rw [if_neg h4, if_neg (by omega)] at hin
      rw [hin]
      simp only [Option.bind_some, h3]
      rfl
     ·rw [if_neg (by simpa using h3), if_neg (by simpa using h4), hfe, if_neg h4, if_neg (by omega)]
theorem Qan : ∀ (N : Nat) (v : Q0) (m : Int), Fine v → Xa v m = 0 → v.wgt < 4000000000 → v.sz < 1000000000 → 3 * v.sz + 301000 < N → Vd N v = some v.frm
 | 0, v, _, _, _, _, _, h => by omega
 | N + 1, v, m, hf, hc, hw, hz, hN => by
  have hs := v.sz_eq
  have hsl := Q0.szs_len v.Items
  obtain ⟨l1, l2, l3, l4⟩ := Q78 hw
  have := Qgw (R := Vd N) (N := N) hf hc hw hz (by omega) (fun x hx => by
   have h1 := Q0.szs_mem _ x hx
   have h2 : ∃ m', Xa x m' = 0 := by
    rcases Jv hc with ⟨k1, k2, k3⟩ | ⟨_, _, _, _, _, _, k7⟩
    ·rw [(Jd k3).2.2.2.1] at hx; cases hx
    ·exact ⟨_, (k7 x hx).1⟩
   obtain ⟨m', hm⟩ := h2
   exact Qan N x m' (hf.items x hx) hm (l4 x hx) (by omega) (by omega)) N 0 (by omega) (by omega)
  exact this
theorem Qgg {v : Q0} {m : Int} (h : G0 v m = 0) : Xa v m = 0 ∧ 0 ≤ m ∧ m ≤ 32 := by
 unfold G0 at h
 split at h
 ·cases h
 ·rename_i hr
  unfold Q3w at hr
  simp at hr
  exact ⟨h, hr.1, hr.2⟩
theorem Qni (s : List UInt8) : (Q1i s).map (fun n => UInt8.ofNat n.toNat) = s := by
 unfold Q1i
 rw [List.map_map]
 conv => rhs; rw [← List.map_id s]
 apply List.map_congr_left
 intro b _
 simp
theorem Qji (N : Nat) (v : Q0) (m : Int) (hf : Fine v) (hw : v.wgt < 4000000000) (hz : v.sz < 1000000000) (hN : 3 * v.sz + 302000 ≤ N) : U6 N v m = some (if G0 v m ≠ 0 then ([], G0 v m) else (v.nrm.byt, 0)) := by
 simp only [U6, Qh0 N v m hf (by omega) hz, Option.bind_some, Q6, Ub]
 by_cases h : G0 v m = 0
 ·obtain ⟨hc, _⟩ := Qgg h
  have hnf := Qee hf
  have hnc := Qaq v m hc
  have hnw : v.nrm.wgt < 4000000000 := by rw [Qiv]; exact hw
  have hnz : v.nrm.sz < 1000000000 := by rw [Q6r]; exact hz
  have hl := (Q32 v.nrm).2.1
  rw [if_neg (by simp [h]), if_neg (by simp [h]), Qc6 N v (by omega) hz]
  simp only [Option.bind_some]
  rw [Qan N v.nrm m hnf hnc hnw hnz (by rw [Q6r]; omega)]
  simp only [Option.bind_some]
  rw [(Qnw v.nrm m hnf hnc hnw hnz).2 N (by rw [Q6r]; omega) [] (by simp; omega)]
  simp only [Option.bind_some, U2, List.nil_append, Qni]
 ·rw [if_pos h, if_pos h]
theorem Qsr (N : Nat) (v : Q0) (m : Int) (hf : Fine v) (hw : v.wgt < 4000000000) (hz : v.sz < 1000000000) (hN : 3 * v.sz + 302000 ≤ N) : Gc N v m = some (if G0 v m ≠ 0 then (0, G0 v m) else ((v.nrm.byt.length : Int), 0)) := by
 simp only [Gc, Qh0 N v m hf (by omega) hz, Option.bind_some, Q6, Ub]
 by_cases h : G0 v m = 0
 ·obtain ⟨hc, _⟩ := Qgg h
  have hnf := Qee hf
  have hnc := Qaq v m hc
  have hnw : v.nrm.wgt < 4000000000 := by rw [Qiv]; exact hw
  have hnz : v.nrm.sz < 1000000000 := by rw [Q6r]; exact hz
  have hl := (Q32 v.nrm).2.1
  have hbl := Qod v.nrm
  rw [if_neg (by simp [h]), if_neg (by simp [h]), Qc6 N v (by omega) hz]
  simp only [Option.bind_some]
  rw [Qan N v.nrm m hnf hnc hnw hnz (by rw [Q6r]; omega)]
  simp only [Option.bind_some]
  rw [Qdz N v.nrm m hnf hnc hnw (by omega)]
  simp only [Option.bind_some]
  obtain ⟨p1, p2, _⟩ := Qia v.nrm m hnf hnc hnw hnz
  by_cases h5 : v.nrm.Kind = 25
  ·rw [if_pos h5] at hbl ⊢
   rw [p2 N (by rw [Q6r]; omega) h5]
   simp only [Option.bind_some]
   rw [Qq _ (by omega), hbl]; push_cast; rfl
  ·rw [if_neg h5] at hbl ⊢
   obtain ⟨g1, g2⟩ := Qj1 hnf hnc h5
   obtain ⟨d1, d2, d3⟩ := Q34 _ _ g1
   rw [p1 N (by rw [Q6r]; omega) _ ⟨d1, d3, h5, g2⟩]
   simp only [Option.bind_some]
   rw [Qq _ (by omega), hbl]; push_cast; rfl
 ·rw [if_pos h, if_pos h]
theorem Qo7 (N : Nat) (v : Q0) (h : v.sz < N) (h2 : v.sz < 1000000000) : Jh N v = some (decide (v = v.nrm)) := by
 simp only [Jh, Qc6 N v h h2, Option.bind_some, Qnr N v v.nrm h h2]
end
end Go.Av
namespace Go.Av
noncomputable section
open Go.Proofs
set_option maxRecDepth 100000
abbrev NN : Nat := 800000000
theorem Qoh (v : Q0) (h : v.txt) : v.wgt ≤ 430 * v.sz := by
 induction v using Q0.ind with
 | h v ih =>
  rw [Q0.txt_eq] at h
  have hl : ∀ l : List Q0, (∀ x ∈ l, x.wgt ≤ 430 * x.sz) → Q0.wgts l ≤ 430 * Q0.szs l := by
   intro l
   induction l with
   | nil => intro _; simp [Q0.wgts]
   | cons x l ihl =>
    intro h
    have h1 := h x (.head _)
    have h2 := ihl (fun y hy => h y (.tail _ hy))
    simp only [Q0.wgts, Q0.szs]; omega
  have := hl v.Items (fun x hx => ih x hx (Qf3 _ h.2 x hx))
  rw [v.wgt_eq, v.sz_eq]; omega
theorem Qum (N : Nat) (s : List UInt8) (most : Int) (hs : s.length ≤ 300000) (hN : 700000500 < N) : ∃ r : Rd, Zc N s most = some r ∧ Qu N s most = some r ∧ (r.1).sz ≤ 300001000 ∧
  (r.2.2 = 0 → Fine r.1 ∧ ∃ m : Nat, most = (m : Int) ∧ m ≤ 32 ∧ r = Ya (Va m) s ∧ Xa r.1 m = 0) := by
 by_cases h : 0 ≤ most ∧ most ≤ 32
 ·obtain ⟨m, rfl⟩ := Int.eq_ofNat_of_zero_le h.1
  refine ⟨_, Qrl m N s (by omega) (by omega) (by omega), Qfn m N s (by omega) (by omega) hs, ?_, fun he => ?_⟩
  ·by_cases he : (Ya (Va m) s).2.2 = 0
   ·have := (Q15 (Q17 m)).1 s (by omega) he
    omega
   ·rw [(Qfx s he).1]; decide
  ·obtain ⟨b, u, rfl, e1, e2⟩ := Qf1 he
   have := Q9c m b.toNat u (by simp at hs; omega) e1
   rw [e2]
   exact ⟨this.1, m, rfl, by omega, e2.symm, this.2.1⟩
 ·obtain ⟨r, h1, h2, h3⟩ := Qwe N s most hs hN
  refine ⟨r, h1, h2, h3, fun he => ?_⟩
  obtain ⟨N, rfl⟩ : ∃ K, N = K + 1 := ⟨N - 1, by omega⟩
  have : Zc (N + 1) s most = some (Q0i, 0, 2) := by
   show Wx (Zc N) (W8 N) (Xu N) (U4 N) N s most = _
   simp only [Wx, Q6g, show Q3w most = false from decide_eq_false h, Option.bind_some, Q6, Bool.not_false, if_true]; rfl
  rw [this] at h1
  cases h1
  cases he
theorem Qto : J5 NN = some true := by decide +kernel
theorem Qhn (v : Q0) (s : List UInt8) (most : Int) (hv : OkV v) : Wa NN v s most = some true := by
 obtain ⟨b1, l1, l2⟩ := Qd6 NN v (by decide)
 simp only [Wa, Qto, Option.bind_some, Q6, Bool.not_true, Bool.false_eq_true, if_false, l1, Q37]
 cases b1 with
 | false => rfl
 | true =>
  obtain ⟨s1, t1⟩ := l2 rfl
  have hf := Qtl v hv t1
  have w1 := Qoh v t1
  have nz := Q6r v
  have hN : NN = 800000000 := rfl
  simp only [Bool.not_true, Bool.false_eq_true, if_false]
  by_cases hs : s.length > 200
  ·rw [if_pos (by omega)]
  rw [if_neg (by omega), Qs8 NN v (by omega) (by omega)]
  simp only [Option.bind_some]
  rw [Qji NN v most hf (by omega) (by omega) (by omega), Qbo NN v most hf (by omega) (by omega) (by omega), Qsr NN v most hf (by omega) (by omega) (by omega)]
  simp only [Option.bind_some, Ub, Gg]
  rw [if_neg (by simp), if_neg (by simp)]
  have hsz : (if G0 v most ≠ 0 then ((0 : Int), G0 v most) else ((v.nrm.byt.length : Int), 0)).1 = (((if G0 v most ≠ 0 then (([] : List UInt8), G0 v most) else (v.nrm.byt, 0)).1.length : Nat) : Int) ∧
    (if G0 v most ≠ 0 then ((0 : Int), G0 v most) else ((v.nrm.byt.length : Int), 0)).2 = (if G0 v most ≠ 0 then (([] : List UInt8), G0 v most) else (v.nrm.byt, 0)).2 := by
   split <;> simp
  rw [if_neg (by simpa using hsz.1), if_neg (by simpa using hsz.2), Qc6 NN v (by omega) (by omega), Q69 NN v hf (by omega) (by omega)]
  simp only [Option.bind_some]
  rw [Q9j NN v.nrm v.nrm (by omega) (by omega)]
  simp only [Option.bind_some, decide_true, Bool.not_true, Bool.false_eq_true, if_false, Qo7 NN v (by omega) (by omega), Qfk NN v hf (by omega) (by omega), beq_self_eq_true]
  obtain ⟨r, e1, e2, e3, e4⟩ := Qum NN s most (by omega) (by decide)
  have hag : r.2.2 ≠ 0 ∨ (r.2.2 = 0 ∧ r.1.sz ≤ 40 ∧ r.1.txt) → ∃ q, J1 NN s most = some q ∧ Wh NN s most = some q := by
   intro h
   simp only [J1, Wh, e1, e2, Option.bind_some, Q6, Ub]
   rcases h with h | ⟨h, h5, h6⟩
   ·rw [if_pos h, if_pos h]; exact ⟨_, rfl, rfl⟩
   ·rw [if_neg (show ¬ (r.2.2 ≠ 0) by simp [h]), if_neg (show ¬ (r.2.2 ≠ 0) by simp [h])]
    by_cases h7 : r.2.1 ≠ (s.length : Int)
    ·rw [if_pos h7, if_pos h7]; exact ⟨_, rfl, rfl⟩
    ·rw [if_neg h7, if_neg h7]
     have hrf := (e4 h).1
     have w3 := Qoh r.1 h6
     rw [Qji NN r.1 most hrf (by omega) (by omega) (by omega), Qbo NN r.1 most hrf (by omega) (by omega) (by omega)]
     exact ⟨_, rfl, rfl⟩
  rw [e2]
  simp only [Option.bind_some, Wb]
  by_cases he : r.2.2 = 0
  ·rw [if_pos he]
   obtain ⟨b3, l5, l6⟩ := Qd6 NN r.1 (by decide)
   rw [l5]
   simp only [Option.bind_some]
   cases b3 with
   | false => rfl
   | true =>
    obtain ⟨q, q1, q2⟩ := hag (.inr ⟨he, l6 rfl⟩)
    simp only [Bool.not_true, Bool.false_eq_true, if_false, q1, q2, Option.bind_some]
    rw [if_pos (by simp [Q36])]
    simp [Q5]
  ·rw [if_neg he]
   obtain ⟨q, q1, q2⟩ := hag (.inl he)
   simp only [q1, q2, Option.bind_some]
   rw [if_pos (by simp [Q36])]
   simp [Q5]
end
end Go.Av
