/- Part of the proof of FromsnApart: for every input the law returns true; no condition. -/
import Derived.Test.YtjhombimklaciaaGreatDoorRegN
import Derived.Test.YtjhombimklaciaaGreatDoorAvAbb
namespace Go.Av
noncomputable section
def Xp (c : List UInt8) : Nat → Reg → Option (Nat × RCl)
 | _, [] => none
 | n, (k, C) :: r => if c = k then some (n, C) else Xp c (n + 1) r
def Q39 (c : List UInt8) : Nat → List (List UInt8 × Int) → Option (Nat × Int)
 | _, [] => none
 | n, (k, v) :: r => if c = k then some (n, v) else Q39 c (n + 1) r
def G8 (x : Int) : Nat → List (Int × List UInt8 × Bool) → Option (Nat × List UInt8 × Bool)
 | _, [] => none
 | n, (k, v) :: r => if x = k then some (n, v) else G8 x (n + 1) r
section
variable {E : Env Prop} {x : PV} {k : Option (Nat × AV) → Prop} {es : List (PV × AV)} {i : Nat}
theorem Wz (h : Vz x i es = some none) (hk : k none) : Q0t E x k i es := by rw [Q0f, h]; exact hk
theorem Qd5 (hk : k none) : Q0t E x k i [] := Wz rfl hk
theorem Wi {q : Nat × AV} (h : Vz x i es = some (some q)) (hk : k (some q)) : Q0t E x k i es := by rw [Q0f, h]; exact hk
end
section
variable {P : Program} {Gl : Nat → Option (List PV)}
theorem Q6r {f : Nat} {args : List AV} {H : List AObj} {r : PV} {Q : List AObj → Prop} (h : Qm P Gl f args H (fun v H' => Frz (fun _ => False) H' v r ∧ Q H')) : Qm P Gl f args H (fun v H' => v = .p r ∧ Q H') := by
 refine ⟨h.1, fun θ w cargs ha hH hG => (h.2 θ w cargs ha hH hG).mono ?_⟩
 rintro e w' ⟨v, cr, H', θ', rfl, ⟨hf, hq⟩, q2, q3, q4⟩
 exact ⟨.p r, cr, H', θ', rfl, ⟨rfl, hq⟩, .p _ _ (Q3h q3 (fun c h => h) (fun a o l h => h.elim) hf q2), q3, q4⟩
theorem fzT {K : Nat → Prop} {H : List AObj} {vs : List AV} {rs : List PV} (h : FrzL K H vs rs) : Frz K H (.tuple vs) (.tuple rs) := .tuple _ _ h.1 h.2
end
theorem apP {β : Type} {l m q : List β} {k : List β → Prop} (e : l ++ m = q) (h : k q) : Qcr l m k := by rw [J7, e]; exact h
theorem Qbi (a b : List UInt8) : Xm (.str a) (.str b) = some (decide (a = b)) := by
 show some (a == b) = _
 congr 1
 by_cases h : a = b
 ·rw [decide_eq_true h]; simp [h]
 rw [decide_eq_false h]; simpa using h
theorem Qpm (a b : Int) : Xm (.int .i64 a) (.int .i64 b) = some (decide (a = b)) := rfl
theorem G6 {c : List UInt8} : ∀ (R : Reg) (g : List (Nat × Nat)) (n : Nat), Xp c n R = none → Vz (.str c) n (gm R g) = some none
 | [], g, n, _ => by simp [gm, Vz]
 | (k, C) :: R, [], n, h => by simp [gm, Vz]
 | (k, C) :: R, a :: g, n, h => by
  simp only [Xp] at h;split at h
  ·cases h
  rename_i hne
  show (match Xm (.str c) (.str k) with
   | some true => _
   | some false => Vz (.str c) (n + 1) (gm R g)
   | none => _) = _
  rw [Qbi, decide_eq_false hne];exact G6 R g (n + 1) h
theorem Q0z {c : List UInt8} : ∀ (R : Reg) (n i : Nat) (C : RCl), Xp c n R = some (i, C) → n ≤ i ∧ R[i - n]? = some (c, C)
 | [], n, i, C, h => by cases h
 | (k, D) :: R, n, i, C, h => by
  simp only [Xp] at h;split at h
  ·rename_i he;cases h; subst he;exact ⟨Ln _, by simp⟩
  obtain ⟨h1, h2⟩ := Q0z R (n + 1) i C h;refine ⟨by omega, ?_⟩;rw [show i - n = (i - (n + 1)) + 1 by omega];exact h2
theorem W8 {c : List UInt8} {C : RCl} {x : AV} : ∀ (R : Reg) (g : List (Nat × Nat)) (n i : Nat), g.length = R.length → Xp c n R = some (i, C) →
  Vz (.str c) n ((gm R g).set (i - n) (.str c, x)) = some (some (i, x))
 | [], g, n, i, _, h => by cases h
 | (k, D) :: R, [], n, i, hg, h => by simp at hg
 | (k, D) :: R, a :: g, n, i, hg, h => by
  simp only [Xp] at h;split at h
  ·rename_i he;cases h; subst he;show Vz (.str c) n (((PV.str c, AV.gptr a.1 a.2) :: gm R g).set (n - n) (.str c, x)) = _;rw [Bk]
   show (match Xm (.str c) (.str c) with
    | some true => some (some (n, x))
    | some false => _
    | none => _) = _
   rw [Qbi, decide_eq_true rfl]
  rename_i hne;have hle := (Q0z R (n + 1) i C h).1;show Vz (.str c) n (((PV.str k, AV.gptr a.1 a.2) :: gm R g).set (i - n) (.str c, x)) = _;rw [show i - n = (i - (n + 1)) + 1 by omega]
  show (match Xm (.str c) (.str k) with
   | some true => _
   | some false => Vz (.str c) (n + 1) ((gm R g).set (i - (n + 1)) (.str c, x))
   | none => _) = _
  rw [Qbi, decide_eq_false hne];exact W8 R g (n + 1) i (by simpa using hg) h
theorem Qm2 {c : List UInt8} : ∀ (l : List (List UInt8 × Int)) (n : Nat), Vz (.str c) n (Q8t l) = some ((Q39 c n l).map fun q => (q.1, .p (.int .i64 q.2)))
 | [], n => rfl
 | (k, v) :: l, n => by
  show (match Xm (.str c) (.str k) with
   | some true => some (some (n, AV.p (.int .i64 v)))
   | some false => Vz (.str c) (n + 1) (Q8t l)
   | none => none) = _
  rw [Qbi];simp only [Q39]
  by_cases h : c = k
  ·rw [decide_eq_true h, if_pos h]; rfl
  rw [decide_eq_false h, if_neg h]; exact Qm2 l (n + 1)
theorem Qkf {x : Int} : ∀ (l : List (Int × List UInt8 × Bool)) (n : Nat), Vz (.int .i64 x) n (Q8w l) = some ((G8 x n l).map fun q => (q.1, .agg [.p (.int .i64 x), .p (.str q.2.1), .p (.bool q.2.2)]))
 | [], n => rfl
 | (k, v) :: l, n => by
  show (match Xm (.int .i64 x) (.int .i64 k) with
   | some true => some (some (n, AV.agg [.p (.int .i64 k), .p (.str v.1), .p (.bool v.2)]))
   | some false => Vz (.int .i64 x) (n + 1) (Q8w l)
   | none => none) = _
  rw [Qpm];simp only [G8]
  by_cases h : x = k
  ·subst h; rw [decide_eq_true rfl, if_pos rfl]; rfl
  rw [decide_eq_false h, if_neg h]; exact Qkf l (n + 1)
theorem Jz {c : List UInt8} {l : List (List UInt8 × Int)} (h : Q39 c 0 l = none) : Vz (.str c) 0 (Q8t l) = some none := by rw [Qm2, h]; rfl
theorem Q4q {c : List UInt8} {l : List (List UInt8 × Int)} {i : Nat} {v : Int} (h : Q39 c 0 l = some (i, v)) : Vz (.str c) 0 (Q8t l) = some (some (i, .p (.int .i64 v))) := by rw [Qm2, h]; rfl
theorem U7 {x : Int} {l : List (Int × List UInt8 × Bool)} (h : G8 x 0 l = none) : Vz (.int .i64 x) 0 (Q8w l) = some none := by rw [Qkf, h]; rfl
theorem U4 {x : Int} {l : List (Int × List UInt8 × Bool)} {i : Nat} {v : List UInt8 × Bool} (h : G8 x 0 l = some (i, v)) : Vz (.int .i64 x) 0 (Q8w l) = some (some (i, .agg [.p (.int .i64 x), .p (.str v.1), .p (.bool v.2)])) := by rw [Qkf, h]; rfl
theorem Qg7 (n : Nat) (l : List (List UInt8 × Int)) : Vq n (.map (Q8t l)) = true := by
 show (Q8t l).all _ = true;rw [Lp];intro p hp;obtain ⟨q, _, rfl⟩ := Mw.1 hp;rfl
theorem Qh5 (n : Nat) (l : List (Int × List UInt8 × Bool)) : Vq n (.map (Q8w l)) = true := by
 show (Q8w l).all _ = true;rw [Lp];intro p hp;obtain ⟨q, _, rfl⟩ := Mw.1 hp;rfl
theorem Q8h (n : Nat) : ∀ l : List Int, refsLt.refsLts n (Qf3 l) = true
 | [] => rfl
 | x :: l => Q8h n l
theorem Q9b (C : RCl) : ((Vs C).all (Vq (Vs C).length)) = true :=
 roE rfl (roE (Qg7 _ _) (roE (Qh5 _ _) (roE (Q8h _ _) roN)))
theorem Va {R : Reg} {g : List (Nat × Nat)} {i : Nat} {k : List UInt8} {C' : RCl} {H' : List AObj} (more : List AObj) (e : H' = Qcq R g i k C' ++ more) : Qb6 R g i k C' H' := by
 subst e
 have key : ∀ j o, (Vs C')[j]? = some o → (Qcq R g i k C' ++ more)[2 + j]? = some (Q49 (fun j => 2 + j) o) := fun j o h => by
  have h2 := Q9s C' j;rw [h] at h2
  have : (Qcq R g i k C')[2 + j]? = some (Q49 (fun j => 2 + j) o) := by rw [show 2 + j = j + 2 by omega]; exact h2
  rw [Lk (La.1 this).1]; exact this
 refine ⟨fun j => 2 + j, rfl, rfl, ⟨⟨rfl, fun i v u h => by simp at h⟩, ?_, rfl, rfl, Q9b C'⟩, fun j _ => by show 2 ≤ 2 + j; omega⟩;exact ⟨.inl ⟨_, key 0 _ rfl, .inl rfl⟩, .inl ⟨_, key 1 _ rfl, .inl rfl⟩, .inl ⟨_, key 2 _ rfl, .inl rfl⟩, .inl ⟨_, key 3 _ rfl, .inl rfl⟩, trivial⟩
theorem Qe6 {R : Reg} {g : List (Nat × Nat)} {k : List UInt8} {ids : List (List UInt8 × Int)} {all : List (Int × List UInt8 × Bool)} {n : Int} {H' : List AObj} (p : Nat) (hp : 2 ≤ p)
  (h0 : H'[0]? = some (.cells [.map 1])) (h1 : H'[1]? = some (.map (gm R g ++ [(.str k, .ptr (p + 2) 0)]))) (h2 : H'[p]? = some (.map (Q8t ids))) (h3 : H'[p + 1]? = some (.map (Q8w all)))
  (h4 : H'[p + 2]? = some (.cells [.map p, .map (p + 1), .p .nilSlice, .p (.int .i64 n)])) : Qh6 R g k ⟨ids, all, [], n⟩ H' := by
 let ρ : Nat → Nat := fun j => if j = 0 then p + 2 else if j = 1 then p else if j = 2 then p + 1 else H'.length + p + 3 + j
 refine ⟨ρ, h0, h1, ⟨⟨rfl, fun i v u h => by simp at h⟩, ?_, ?_, rfl, Q9b _⟩, fun j hj => ?_⟩
 ·refine ⟨.inl ⟨_, h4, .inr ⟨[.map p, .map (p + 1), .p .nilSlice, .p (.int .i64 n)], [.map 1, .map 2, .slice 1 3 0 0, .p (.int .i64 n)], [], rfl, rfl, rfl, fun j v u hv hu => ?_⟩⟩, .inl ⟨.map (Q8t ids), h2, .inl ?_⟩, .inl ⟨.map (Q8w all), h3, .inl ?_⟩, .inr ⟨rfl, ?_⟩, trivial⟩
  ·match j, hv, hu with
   | 0, hv, hu => cases hv; cases hu; exact .same (.map 1)
   | 1, hv, hu => cases hv; cases hu; exact .same (.map 2)
   | 2, hv, hu => cases hv; cases hu; exact .nil 1 3 0
   | 3, hv, hu => cases hv; cases hu; exact .same (.p _)
   | j + 4, hv, hu => simp at hv
  ·show AObj.map (Q8t ids) = .map ((Q8t ids).map fun p => (p.1, Q06 ρ p.2));unfold Q8t;rw [Br]; rfl
  ·show AObj.map (Q8w all) = .map ((Q8w all).map fun p => (p.1, Q06 ρ p.2));unfold Q8w;rw [Br]; rfl
  show _ ≤ ρ 3;simp only [ρ];rw [if_neg (by omega), if_neg (by omega), if_neg (by omega)];omega
 ·have e4 : ((List.range 4).all fun i => (!(decide (i < 0)) || ρ i == i) && (List.range 4).all fun j => i == j || !(((Vs ⟨ids, all, [], n⟩)[i]?).any AObj.live) || !(((Vs ⟨ids, all, [], n⟩)[j]?).any AObj.live) || ρ i != ρ j) = true := by
   rw [Lp];intro i hi;rw [Lb];refine ⟨by simp, ?_⟩;rw [Lp];intro j hj;rw [Bu] at hi hj
   by_cases hij : i = j
   ·simp [hij]
   have : ρ i ≠ ρ j := by
    simp only [ρ]
    split <;> split <;> (repeat' split) <;> omega
   simp [this]
  exact e4
 simp only [ρ]
 repeat' split
 all_goals omega
theorem Ql6 {R : Reg} {g : List (Nat × Nat)} {k : List UInt8} {ids : List (List UInt8 × Int)} {all : List (Int × List UInt8 × Bool)} {n : Int} {H' : List AObj} (more : List AObj)
  (e : H' = .cells [.map 1] :: .map (gm R g ++ [(.str k, .ptr 4 0)]) :: .map (Q8t ids) :: .map (Q8w all) :: .cells [.map 2, .map 3, .p .nilSlice, .p (.int .i64 n)] :: more) : Qh6 R g k ⟨ids, all, [], n⟩ H' := by
 subst e;exact Qe6 2 (Ln _) rfl rfl rfl rfl rfl
section
variable {P : Program} {Gl : Nat → Option (List PV)}
theorem Qbt {f : Nat} {args : List AV} {H : List AObj} {Q : AV → List AObj → Prop} (h : Qm P Gl f args H Q) : Qj9 P f = true := h.1
theorem Qts {f : Nat} {args : List PV} {r : PV} {R : Reg} {i : Nat} {k : List UInt8} {C C' : RCl} (hr : Uo r = true) (hi : Xp k 0 R = some (i, C))
  (h : ∀ g : List (Nat × Nat), g.length = R.length → Qm P Gl f (.ptr 0 0 :: args.map .p) (Qcq R g i k C) (fun v H' => Frz (fun _ => False) H' v r ∧ Qb6 R g i k C' H')) : Q1h P Gl f R args r (R.set i (k, C')) :=
 Qo4 (Qbt (h (List.replicate R.length (0, 0)) (by simp))) hr (Q0z R 0 i C hi).2 fun g hg => Q6r (h g hg)
theorem Gy {f : Nat} {args : List PV} {r : PV} {R : Reg} {i : Nat} {k : List UInt8} {C : RCl} (hr : Uo r = true) (hi : Xp k 0 R = some (i, C))
  (h : ∀ g : List (Nat × Nat), g.length = R.length → Qm P Gl f (.ptr 0 0 :: args.map .p) (Qcq R g i k C) (fun v H' => Frz (fun _ => False) H' v r ∧ Qb6 R g i k C H')) : Q1h P Gl f R args r R := by
 have := Qts hr hi h;have e := (Q0z R 0 i C hi).2;rw [Nat.sub_zero] at e;obtain ⟨hl, he⟩ := La.1 e
 rwa [← he, List.set_getElem_self] at this
theorem Qx3 {f : Nat} {args : List PV} {r : PV} {R : Reg} {k : List UInt8} {C' : RCl} (hr : Uo r = true)
  (h : ∀ g : List (Nat × Nat), g.length = R.length → Qm P Gl f (.ptr 0 0 :: args.map .p) (G9 R g) (fun v H' => Frz (fun _ => False) H' v r ∧ Qh6 R g k C' H')) : Q1h P Gl f R args r (R ++ [(k, C')]) :=
 Qo3 (Qbt (h (List.replicate R.length (0, 0)) (by simp))) hr fun g hg => Q6r (h g hg)
theorem Qrq {f : Nat} {args : List PV} {r : PV} {R : Reg} (hr : Uo r = true)
  (h : ∀ g : List (Nat × Nat), g.length = R.length → Qm P Gl f (.ptr 0 0 :: args.map .p) (G9 R g) (fun v H' => Frz (fun _ => False) H' v r ∧ H'[0]? = some (.cells [.map 1]) ∧ H'[1]? = some (.map (gm R g)))) : Q1h P Gl f R args r R :=
 Qmk (Qbt (h (List.replicate R.length (0, 0)) (by simp))) hr fun g hg => Q6r (h g hg)
theorem Qul {f : Nat} (hc : Qm P Gl f [] [] (fun v H' => ∃ i j, v = .ptr j 0 ∧ H'[j]? = some (.cells [.map i]) ∧ H'[i]? = some (.map []) ∧ i ≠ j)) : Qgn P Gl f := Qkg hc.1 hc
end
theorem Qk5 (l : List (List UInt8 × Int)) (c : List UInt8) (v : Int) : Q8t l ++ [(.str c, .p (.int .i64 v))] = Q8t (l ++ [(c, v)]) := by simp [Q8t]
theorem Qkz (l : List (Int × List UInt8 × Bool)) (x : Int) (n : List UInt8) (b : Bool) : Q8w l ++ [(.int .i64 x, .agg [.p (.int .i64 x), .p (.str n), .p (.bool b)])] = Q8w (l ++ [(x, n, b)]) := by simp [Q8w]
theorem Qq3 {n : Nat} (hn : 2 < n) (R : Reg) (g : List (Nat × Nat)) (i : Nat) (k : List UInt8) : Vq n (.map ((gm R g).set i (.str k, .ptr 2 0))) = true := by
 show ((gm R g).set i _).all _ = true;rw [Lp];intro p hp
 rcases Bq hp with h | rfl
 ·obtain ⟨q, _, rfl⟩ := Mw.1 h;rfl
 exact decide_eq_true hn
theorem Qlk (R : Reg) (g : List (Nat × Nat)) (i : Nat) (k : List UInt8) (C : RCl) : ((Qcq R g i k C).all (Vq (Qcq R g i k C).length)) = true :=
 roE rfl (roE (Qq3 (show 2 < 6 by decide) R g i k) (roE rfl (roE (Qg7 _ _) (roE (Qh5 _ _) (roE (Q8h _ _) roN)))))
theorem Qtv {R : Reg} {g : List (Nat × Nat)} {i : Nat} {k : List UInt8} {C : RCl} {n : Nat} {tm tm' : List AV} {H : List AObj} (more : List AObj) (e : H = Qcq R g i k C ++ more)
  (h1 : RenL (fun i => i) (KD (fun i => i) (Qcq R g i k C)) H tm tm') (h4 : refsLt.refsLts 6 tm' = true) : Ren (fun i => i) n tm H tm' (Qcq R g i k C) := by
 subst e;exact ⟨h1, Qg5 0 _ (fun j o h => by rw [Me, Lk (La.1 h).1]; exact h), Qlg n _, h4, Qlk R g i k C⟩
def Q4b (all : List (Int × List UInt8 × Bool)) : Nat → Int → Option (Int × Int)
 | 0, _ => none
 | k + 1, n => if 1 ≤ n then (if n ≤ 65534 then (match G8 n 0 all with
  | none => some (n, n + 1)
  | some _ => Q4b all k (n + 1)) else some (0, n)) else none
end
end Go.Av
