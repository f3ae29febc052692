/- An abstract machine for the modelled code, and what its runs say of real calls. Part of a proof of a given statement: for every input the law returns true and the arguments read as before; no condition beyond the given row. -/
import Derived.Test.YtegedmcbfmfjeaaDoorAvLift
import Derived.Test.YtegedmcbfmfjeaaDoorAvJoin
namespace Go.Av
noncomputable section
section
variable {P : Program} {Gl : Nat → Option (List PV)}
def Zl {T : Type} (c : T → List PV) : List T → List AV
 | [] => []
 | v :: l => (c v).map AV.p ++ Zl c l
theorem Q6f {T : Type} (c : T → List PV) (l m : List T) : Zl c (l ++ m) = Zl c l ++ Zl c m := by
 induction l with
 | nil => rfl
 | cons v l ih => simp [Zl, ih]
theorem V4 {T : Type} {c : T → List PV} {e : Nat} (hc : ∀ v, (c v).length = e) (l : List T) : (Zl c l).length = l.length * e := by
 induction l with
 | nil => simp [Zl]
 | cons v l ih => simp [Zl, ih, hc, Nat.succ_mul]; omega
theorem Q49 {T : Type} (c : T → List PV) (l : List T) : Zl c l = (Z5 c l).flatten.map AV.p := by
 induction l with
 | nil => rfl
 | cons v l ih => simp [Zl, ih, Z5]
theorem V6 {T : Type} {c : T → List PV} {l : List T} {new : List AV} (vs : List T) {k : List AV → Prop} (e : new = Zl c vs) (h : k (Zl c (l ++ vs))) : Q7u (Zl c l) new k := by
 rw [Wp, e, ← Q6f]; exact h
theorem Xt {T : Type} {c : T → List PV} {e : Nat} (hc : ∀ v, (c v).length = e) {l : List T} {g : Bool} {n : Nat} (hn : n = l.length) (h : g = true) : (Nat.beq e e && (Nat.beq (0 + n * e) (Zl c l).length && g)) = true := by
 rw [h, V4 hc, hn]; simp
theorem Q2 {T : Type} (c : T → List PV) (l : List T) (n : Nat) : V9 n (.cells (Zl c l)) = true := by
 have : ∀ ps : List PV, refsLt.refsLts n (ps.map AV.p) = true := by
  intro ps
  induction ps with
  | nil => rfl
  | cons p ps ih => simp [refsLt.refsLts, refsLt, ih]
 rw [Q49]; exact this _
theorem Qdh {T : Type} (ρ : Nat → Nat) (c : T → List PV) (l : List T) : Qfo ρ (.cells (Zl c l)) = .cells (Zl c l) := by
 have : ∀ ps : List PV, Q4r ρ (ps.map AV.p) = ps.map AV.p := by
  intro ps
  induction ps with
  | nil => rfl
  | cons p ps ih => simp [Q4r, Ju, ih]
 simp only [Qfo, Q49, this]
theorem hO {T : Type} {c : T → List PV} {l : List T} {ρ : Nat → Nat} {K : Nat → Prop} {H : List AObj} {i : Nat} {r : List AObj} (e : H[ρ i]? = some (.cells (Zl c l))) (h : Q3h ρ K H (i + 1) r) : Q3h ρ K H i (.cells (Zl c l) :: r) :=
 hE (by rw [Qdh]; exact e) h
theorem Qew {T : Type} {c : T → List PV} : ∀ (l : List T) (k : Nat), Zl c l = Zl c (l.take k) ++ Zl c (l.drop k) := fun l k => by rw [← Q6f, List.take_append_drop]
theorem Qki {T : Type} {c : T → List PV} {l : List T} (k : Nat) {ρ : Nat → Nat} {K : Nat → Prop} {H : List AObj} {i : Nat} {r : List AObj} (e : H[ρ i]? = some (.cells (Zl c l))) (h : Q3h ρ K H (i + 1) r) : Q3h ρ K H i (.cells (Zl c (l.take k)) :: r) := by
 refine hX (.inl ⟨_, e, .inr ⟨Zl c (l.take k), _, Zl c (l.drop k), by rw [← Qew], rfl, ?_⟩⟩) h
 have g : ∀ ps : List PV, Q2f ρ K H (ps.map AV.p) (ps.map AV.p) := by
  intro ps
  induction ps with
  | nil => exact rN
  | cons p ps ih => exact rC (.same (.p p)) ih
 have q : ∀ l : List T, Zl c l = (l.flatMap c).map AV.p := by
  intro l
  induction l with
  | nil => rfl
  | cons v l ih => rw [Zl, ih, List.flatMap_cons, List.map_append]
 rw [q]; exact g _
theorem roN {f : AObj → Bool} : ([] : List AObj).all f = true := rfl
theorem roE {f : AObj → Bool} {o : AObj} {r : List AObj} (h : f o = true) (t : r.all f = true) : (o :: r).all f = true := by simp [h, t]
def rho (l : List Nat) (i : Nat) : Nat := l.getD i i
theorem frz_own {T : Type} {c : T → List PV} {e : Nat} (hc : ∀ v, (c v).length = e) {K : Nat → Prop} {H : List AObj} {a n : Nat} {l : List T} (ho : H[a]? = some (.cells (Zl c l))) (hk : K a) (hn : n = l.length) :
  Frz K H (.slice e a 0 n) (.slice e (Z5 c l)) := by
 subst hn
 have hl : (Z5 c l).flatten.length = l.length * e := by
  have := V4 hc l
  rw [Q49, List.length_map] at this; exact this
 have hcs : ((Zl c l).drop 0).take (l.length * e) = Zl c l := by
  rw [List.drop_zero]; exact List.take_of_length_le (by rw [V4 hc]; exact Nat.le_refl _)
 refine .slice e a 0 l.length (Zl c l) (Z5 c l) hk ho (Ub c l) (fun r hr => ?_) ?_ (fun i v x hv hx => ?_)
 ·simp only [Z5, List.mem_map] at hr
  obtain ⟨y, _, rfl⟩ := hr
  exact hc y
 ·rw [hcs, V4 hc, hl]
 ·rw [hcs, Q49, List.getElem?_map, hx] at hv
  cases hv
  exact .p _
theorem Qei {α : Type} {i : Int} : idx ([] : List α) i = none := by cases i <;> rfl
theorem Q0h {α : Type} {l : List α} {i : Int} {v : α} (h : idx l i = some v) : 0 ≤ i ∧ i < l.length ∧ l[i.toNat]? = some v := by
 cases i with
 | ofNat n =>
  simp only [idx] at h
  have := (List.getElem?_eq_some_iff.1 h).1
  exact ⟨Int.natCast_nonneg n, by show (n : Int) < l.length; omega, h⟩
 | negSucc n => cases h
theorem Q96 {α : Type} {l : List α} {i : Int} {v : α} {n : Nat} (h : idx l i = some v) (hn : n = l.length) : (decide (0 ≤ i) && decide (i < (n : Int))) = true := by
 obtain ⟨h1, h2, _⟩ := Q0h h
 simp [h1, hn, h2]
theorem Q7r {T : Type} {c : T → List PV} {e : Nat} (hc : ∀ v, (c v).length = e) : ∀ (l : List T) (i : Nat) (v : T), l[i]? = some v → ∃ r, (Zl c l).drop (i * e) = (c v).map AV.p ++ r
 | [], i, v, h => by simp at h
 | u :: l, 0, v, h => by simp at h; subst h; exact ⟨Zl c l, by simp [Zl]⟩
 | u :: l, i + 1, v, h => by
  obtain ⟨r, hr⟩ := Q7r hc l i v (by simpa using h)
  refine ⟨r, ?_⟩
  have : (i + 1) * e = ((c u).map AV.p).length + i * e := by simp [hc, Nat.succ_mul]; omega
  rw [Zl, this, ← List.drop_drop, List.drop_left]; exact hr
theorem Qi0 {T : Type} {c : T → List PV} {e : Nat} (hc : ∀ v, (c v).length = e) {l : List T} {i : Int} {v : T} (hv : idx l i = some v) {off n : Nat} {b : Bool} {k : AV → Prop} (hn : off + n ≤ e) {j : Nat} (hj : j = i.toNat * e + off)
  (h : Wk (EP P Gl) b ((((c v).drop off).take n).map AV.p) k) : Q09 j (Zl c l) (fun cs => Q10 (EP P Gl) n cs (fun cs => Wk (EP P Gl) b cs k)) := by
 subst hj
 obtain ⟨_, _, h3⟩ := Q0h hv
 obtain ⟨r, hr⟩ := Q7r hc l _ v h3
 have e1 : (Zl c l).drop (i.toNat * e + off) = ((c v).map AV.p).drop off ++ r := by
  rw [← List.drop_drop, hr, List.drop_append_of_le_length (by simp [hc]; omega)]
 rw [Xo, e1, Wd]
 have e2 : (((c v).map AV.p).drop off ++ r).take n = (((c v).drop off).take n).map AV.p := by
  rw [List.take_append_of_le_length (by simp [hc]; omega), ← List.map_drop, ← List.map_take]
 unfold Wj
 rw [e2, if_pos (by simp [hc]; omega)]
 exact h
theorem Qjm {l : List Int} {n : Nat} (hn : n = l.length) {k : List UInt8 → Prop} (h : k (l.map fun n => UInt8.ofNat n.toNat)) : Q10 (EP P Gl) n (Zl (cI .u8) l) (fun cs => Uy (EP P Gl) k cs) := by
 subst hn
 have h1 : (Zl (cI .u8) l).length = l.length := by rw [V4 (e := 1) (fun _ => rfl)]; omega
 rw [Wd]
 unfold Wj
 rw [List.take_of_length_le (by omega), if_pos h1]
 show Uy (EP P Gl) k (Zl (cI .u8) l)
 rw [Q39]
 have : ∀ l : List Int, Qag (Zl (cI .u8) l) = some (l.map fun n => UInt8.ofNat n.toNat) := by
  intro l
  induction l with
  | nil => simp [Zl, Qag]
  | cons b l ih => simp [Zl, Qag, ih]
 rw [this]; exact h
theorem Qk5 (l : List Int) : Zl (cI .u8) l = l.map fun n => AV.p (.int .u8 n) := by
 induction l with
 | nil => rfl
 | cons b l ih => rw [Zl, ih]; rfl
theorem Q7v (l : List Int) (off n : Nat) : ((Zl (cI .u8) l).drop off).take n = Zl (cI .u8) ((l.drop off).take n) := by
 rw [Qk5, Qk5, ← List.map_drop, ← List.map_take]
theorem Qgo {l : List Int} {off n : Nat} (hn : off + n ≤ l.length) {k : List UInt8 → Prop} (h : k (((l.drop off).take n).map fun n => UInt8.ofNat n.toNat)) : Q09 off (Zl (cI .u8) l) (fun cs => Q10 (EP P Gl) n cs (fun cs => Uy (EP P Gl) k cs)) := by
 have h1 : ((l.drop off).take n).length = n := by rw [List.length_take, List.length_drop]; omega
 have := Qjm (P := P) (Gl := Gl) (l := (l.drop off).take n) h1.symm h
 rw [Xo, Wd]
 rw [Wd] at this
 have e : Wj n ((Zl (cI .u8) l).drop off) = Wj n (Zl (cI .u8) ((l.drop off).take n)) := by
  unfold Wj
  rw [Q7v, List.take_of_length_le (l := Zl (cI .u8) ((l.drop off).take n)) (by rw [V4 (e := 1) (fun _ => rfl)]; omega)]
 rw [e]; exact this
theorem Qb5 {l : List Int} {off n : Nat} (hn : off + n ≤ l.length) {k : List AV → Prop} (h : k (Zl (cI .u8) ((l.drop off).take n))) : Q09 off (Zl (cI .u8) l) (fun cs => Q10 (EP P Gl) n cs k) := by
 rw [Xo, Wd]
 have e : Wj n ((Zl (cI .u8) l).drop off) = some (Zl (cI .u8) ((l.drop off).take n)) := by
  unfold Wj
  rw [Q7v, if_pos (by rw [V4 (e := 1) (fun _ => rfl), List.length_take, List.length_drop]; omega)]
 rw [e]; exact h
theorem Qj9 {b : List UInt8} {k : List AV → Prop} (h : k (Zl (cI .u8) (b.map fun x => (x.toNat : Int)))) :
  @List.rec UInt8 (fun _ => Up hi9 ((List AV → Prop) → Prop)) (fun k => k []) (fun v _ ih k => ih fun r => k (AV.p (.int .u8 (v.toNat : Int)) :: r)) b k := by
 have e : ∀ b : List UInt8, Zl (cI .u8) (b.map fun x => (x.toNat : Int)) = b.map fun x => AV.p (.int .u8 (x.toNat : Int)) := by
  intro b
  induction b with
  | nil => rfl
  | cons x b ih => simp [Zl, cI]; simpa [cI] using ih
 rw [e] at h
 have := Yo (α := Prop) (fun x : UInt8 => AV.p (.int .u8 (x.toNat : Int))) b k
 show Q2d (fun x : UInt8 => AV.p (.int .u8 (x.toNat : Int))) b k
 rw [this]; exact h
theorem Qd9 {T : Type} {c : T → List PV} {e : Nat} (hc : ∀ v, (c v).length = e) {l : List T} {i : Int} {v : T} (hv : idx l i = some v) {off n j m : Nat} (hj : j = i.toNat * e + off) (hm : m = n) (hn : off + n ≤ e) :
  (Nat.beq m n && Nat.ble (j + n) (Zl c l).length) = true := by
 obtain ⟨_, h2, _⟩ := Q0h hv
 have h3 : i.toNat + 1 ≤ l.length := by omega
 have := Nat.mul_le_mul_right e h3
 rw [V4 hc, hm, hj]
 simp only [Nat.beq_refl, Bool.true_and, Nat.ble_eq]
 rw [Nat.succ_mul] at this
 omega
theorem Qbf {T : Type} {c : T → List PV} {e : Nat} (hc : ∀ v, (c v).length = e) : ∀ (l : List T) (i : Nat) (v v' : T) (off : Nat) (new : List AV), l[i]? = some v →
  (c v').map AV.p = ((c v).map AV.p).take off ++ (new ++ ((c v).map AV.p).drop (off + new.length)) → off + new.length ≤ e →
  Zl c (l.set i v') = (Zl c l).take (i * e + off) ++ (new ++ (Zl c l).drop (i * e + off + new.length))
 | [], i, v, v', off, new, h, _, _ => by simp at h
 | u :: l, 0, v, v', off, new, h, hn, hl => by
  simp at h; subst h
  have h1 : ((c u).map AV.p).length = e := by simp [hc]
  simp only [List.set_cons_zero, Zl, Nat.zero_mul, Nat.zero_add]
  rw [List.take_append_of_le_length (by omega), List.drop_append_of_le_length (by omega), hn]
  simp
 | u :: l, i + 1, v, v', off, new, h, hn, hl => by
  have h1 : ((c u).map AV.p).length = e := by simp [hc]
  have ih := Qbf hc l i v v' off new (by simpa using h) hn hl
  have e1 : (i + 1) * e + off = ((c u).map AV.p).length + (i * e + off) := by rw [h1, Nat.succ_mul]; omega
  simp only [List.set_cons_succ, Zl]
  rw [e1, Nat.add_assoc, List.take_length_add_append, List.drop_length_add_append, ih]
  simp
theorem Qev {T : Type} {c : T → List PV} {e : Nat} (hc : ∀ v, (c v).length = e) {l : List T} {i : Int} {v : T} (hv : idx l i = some v) (v' : T) {off j : Nat} {new : List AV} (hj : j = i.toNat * e + off)
  (hnew : (c v').map AV.p = ((c v).map AV.p).take off ++ (new ++ ((c v).map AV.p).drop (off + new.length))) (hlen : off + new.length ≤ e) {k : List AV → Prop} (h : k (Zl c (l.set i.toNat v'))) : Jz (Zl c l) j new k := by
 obtain ⟨_, _, h3⟩ := Q0h hv
 rw [Un, Wb, hj, ← Qbf hc l i.toNat v v' off new h3 hnew hlen]
 exact h
theorem Qdm {T : Type} {c : T → List PV} {e : Nat} (hc : ∀ v, (c v).length = e) {cs : List PV} {l : List T} (hl : cs = (Z5 c l).flatten) {i : Int} {v : T} (hv : idx l i = some v) {off n : Nat} {b : Bool} {k : AV → Prop} (hn : off + n ≤ e) {j : Nat} (hj : j = i.toNat * e + off)
  (h : Wk (EP P Gl) b ((((c v).drop off).take n).map AV.p) k) : Q09 j cs (fun cs => Q2d AV.p cs (fun cs => Q10 (EP P Gl) n cs (fun cs => Wk (EP P Gl) b cs k))) := by
 have h1 := Qi0 hc hv hn hj h
 rw [Q49, ← hl, Xo] at h1
 rw [Xo, Yo, List.map_drop]
 exact h1
theorem Q2o {T : Type} {c : T → List PV} (hc : ∀ v, (c v).length = 1) {l : List T} {n : Nat} (hn : n = l.length) (h : Nat.ble 1 n = true) : (Nat.beq 1 1 && (Nat.ble (0 + n) (Zl c l).length && Nat.ble 1 n)) = true := by
 rw [h, V4 hc, hn]; simp
theorem Q5u {T : Type} {c : T → List PV} (hc : ∀ v, (c v).length = 1) {l new : List T} {len : Nat} {k : Nat → List AV → Prop} (h : k (new.take len).length (Zl c (new.take len ++ l.drop (new.take len).length))) :
  Q50 len (Zl c new) (Zl c l) 0 k := by
 have dr : ∀ (l : List T) n, (Zl c l).drop n = Zl c (l.drop n) := by
  intro l
  induction l with
  | nil => intro n; simp [Zl]
  | cons v l ih =>
   intro n
   cases n with
   | zero => rfl
   | succ n =>
    have h1 : ((c v).map AV.p).length = 1 := by simp [hc]
    rw [Zl, List.drop_succ_cons, ← ih n, show n + 1 = ((c v).map AV.p).length + n by omega, ← List.drop_drop, List.drop_left]
 have tk : ∀ (l : List T) n, (Zl c l).take n = Zl c (l.take n) := by
  intro l
  induction l with
  | nil => intro n; simp [Zl]
  | cons v l ih =>
   intro n
   cases n with
   | zero => rfl
   | succ n =>
    have h1 : ((c v).map AV.p).length = 1 := by simp [hc]
    rw [Zl, List.take_succ_cons, Zl, ← ih n, show n + 1 = ((c v).map AV.p).length + n by omega, List.take_length_add_append]
 unfold Q50
 rw [G6, Q37, Un, Wb, tk, V4 hc, Nat.mul_one, Nat.zero_add, dr, List.take_zero, List.nil_append, ← Q6f]
 exact h
theorem Qid {len off : Nat} {new cs : List AV} {k : Nat → List AV → Prop} (h : Q9p len new fun new => Qk2 new fun n => Jz cs off new fun cs => k n cs) : Q50 len new cs off k := h
theorem Qmg {s : List UInt8} : s = [] ++ s.drop 0 := rfl
theorem Qgu {s l : List UInt8} {n : Nat} (h : s = l ++ s.drop n) {y : UInt8} (hy : idx s (n : Int) = some y) : s = (l ++ [y]) ++ s.drop (n + 1) := by
 have h1 : s[n]? = some y := hy
 have : s.drop n = y :: s.drop (n + 1) := by
  obtain ⟨h2, h3⟩ := List.getElem?_eq_some_iff.1 h1
  rw [List.drop_eq_getElem_cons h2, h3]
 rw [List.append_assoc]
 rw [this] at h
 exact h
theorem Qjw {s l r : List UInt8} (e : s = l ++ r) {k : List AV → Prop} (h : k ((l.map fun x => AV.p (.int .u8 (x.toNat : Int))) ++ r.map fun x => AV.p (.int .u8 (x.toNat : Int)))) :
  @List.rec UInt8 (fun _ => Up hi9 ((List AV → Prop) → Prop)) (fun k => k []) (fun v _ ih k => ih fun r => k (AV.p (.int .u8 (v.toNat : Int)) :: r)) s k := by
 rw [← List.map_append, ← e] at h
 show Q2d (fun x : UInt8 => AV.p (.int .u8 (x.toNat : Int))) s k
 rw [Yo]; exact h
end
end
end Go.Av
