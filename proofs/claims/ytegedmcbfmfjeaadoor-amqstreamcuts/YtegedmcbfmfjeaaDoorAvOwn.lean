/- An abstract machine for the modelled code, and what its runs say of real calls. Part of a proof of a given statement: for every input the law returns true and the arguments read as before; no condition beyond the given row. -/
import Derived.Test.YtegedmcbfmfjeaaDoorAvLift
import Derived.Test.YtegedmcbfmfjeaaDoorAvJoin
namespace Go.Av
noncomputable section
section
variable {P : Program} {Gl : Nat → Option (List PV)}
def Zk {T : Type} (c : T → List PV) : List T → List AV
 | [] => []
 | v :: l => (c v).map AV.p ++ Zk c l
theorem Q6v {T : Type} (c : T → List PV) (l m : List T) : Zk c (l ++ m) = Zk c l ++ Zk c m := by
 induction l with
 | nil => rfl
 | cons v l ih => simp [Zk, ih]
theorem Vg {T : Type} {c : T → List PV} {e : Nat} (hc : ∀ v, (c v).length = e) (l : List T) : (Zk c l).length = l.length * e := by
 induction l with
 | nil => simp [Zk]
 | cons v l ih => simp [Zk, ih, hc, Nat.succ_mul]; omega
theorem Q2f {T : Type} (c : T → List PV) (l : List T) : Zk c l = (Qq c l).flatten.map AV.p := by
 induction l with
 | nil => rfl
 | cons v l ih => simp [Zk, ih, Qq]
theorem Wr {T : Type} {c : T → List PV} {l : List T} {new : List AV} (vs : List T) {k : List AV → Prop} (e : new = Zk c vs) (h : k (Zk c (l ++ vs))) : Q80 (Zk c l) new k := by
 rw [V2, e, ← Q6v]; exact h
theorem Xg {T : Type} {c : T → List PV} {e : Nat} (hc : ∀ v, (c v).length = e) {l : List T} {g : Bool} {n : Nat} (hn : n = l.length) (h : g = true) : (Nat.beq e e && (Nat.beq (0 + n * e) (Zk c l).length && g)) = true := by
 rw [h, Vg hc, hn]; simp
theorem Q2 {T : Type} (c : T → List PV) (l : List T) (n : Nat) : Vn n (.cells (Zk c l)) = true := by
 have : ∀ ps : List PV, refsLt.refsLts n (ps.map AV.p) = true := by
  intro ps
  induction ps with
  | nil => rfl
  | cons p ps ih => simp [refsLt.refsLts, refsLt, ih]
 rw [Q2f]; exact this _
theorem Qef {T : Type} (ρ : Nat → Nat) (c : T → List PV) (l : List T) : Qhf ρ (.cells (Zk c l)) = .cells (Zk c l) := by
 have : ∀ ps : List PV, Q5f ρ (ps.map AV.p) = ps.map AV.p := by
  intro ps
  induction ps with
  | nil => rfl
  | cons p ps ih => simp [Q5f, Gd, ih]
 simp only [Qhf, Q2f, this]
theorem hO {T : Type} {c : T → List PV} {l : List T} {ρ : Nat → Nat} {K : Nat → Prop} {H : List AObj} {i : Nat} {r : List AObj} (e : H[ρ i]? = some (.cells (Zk c l))) (h : Q4v ρ K H (i + 1) r) : Q4v ρ K H i (.cells (Zk c l) :: r) :=
 hE (by rw [Qef]; exact e) h
theorem Qe3 {T : Type} {c : T → List PV} : ∀ (l : List T) (k : Nat), Zk c l = Zk c (l.take k) ++ Zk c (l.drop k) := fun l k => by rw [← Q6v, List.take_append_drop]
theorem Qlf {T : Type} {c : T → List PV} {l : List T} (k : Nat) {ρ : Nat → Nat} {K : Nat → Prop} {H : List AObj} {i : Nat} {r : List AObj} (e : H[ρ i]? = some (.cells (Zk c l))) (h : Q4v ρ K H (i + 1) r) : Q4v ρ K H i (.cells (Zk c (l.take k)) :: r) := by
 refine hX (.inl ⟨_, e, .inr ⟨Zk c (l.take k), _, Zk c (l.drop k), by rw [← Qe3], rfl, ?_⟩⟩) h
 have g : ∀ ps : List PV, Q34 ρ K H (ps.map AV.p) (ps.map AV.p) := by
  intro ps
  induction ps with
  | nil => exact rN
  | cons p ps ih => exact rC (.same (.p p)) ih
 have q : ∀ l : List T, Zk c l = (l.flatMap c).map AV.p := by
  intro l
  induction l with
  | nil => rfl
  | cons v l ih => rw [Zk, ih, List.flatMap_cons, List.map_append]
 rw [q]; exact g _
theorem roN {f : AObj → Bool} : ([] : List AObj).all f = true := rfl
theorem roE {f : AObj → Bool} {o : AObj} {r : List AObj} (h : f o = true) (t : r.all f = true) : (o :: r).all f = true := by simp [h, t]
def rho (l : List Nat) (i : Nat) : Nat := l.getD i i
theorem frz_own {T : Type} {c : T → List PV} {e : Nat} (hc : ∀ v, (c v).length = e) {K : Nat → Prop} {H : List AObj} {a n : Nat} {l : List T} (ho : H[a]? = some (.cells (Zk c l))) (hk : K a) (hn : n = l.length) :
  Frz K H (.slice e a 0 n) (.slice e (Qq c l)) := by
 subst hn
 have hl : (Qq c l).flatten.length = l.length * e := by
  have := Vg hc l
  rw [Q2f, List.length_map] at this; exact this
 have hcs : ((Zk c l).drop 0).take (l.length * e) = Zk c l := by
  rw [List.drop_zero]; exact List.take_of_length_le (by rw [Vg hc]; exact Nat.le_refl _)
 refine .slice e a 0 l.length (Zk c l) (Qq c l) hk ho (Xj c l) (fun r hr => ?_) ?_ (fun i v x hv hx => ?_)
 ·simp only [Qq, List.mem_map] at hr
  obtain ⟨y, _, rfl⟩ := hr
  exact hc y
 ·rw [hcs, Vg hc, hl]
 ·rw [hcs, Q2f, List.getElem?_map, hx] at hv
  cases hv
  exact .p _
theorem Qfl {α : Type} {i : Int} : idx ([] : List α) i = none := by cases i <;> rfl
theorem Q16 {α : Type} {l : List α} {i : Int} {v : α} (h : idx l i = some v) : 0 ≤ i ∧ i < l.length ∧ l[i.toNat]? = some v := by
 cases i with
 | ofNat n =>
  simp only [idx] at h
  have := (List.getElem?_eq_some_iff.1 h).1
  exact ⟨Int.natCast_nonneg n, by show (n : Int) < l.length; omega, h⟩
 | negSucc n => cases h
theorem Qa5 {α : Type} {l : List α} {i : Int} {v : α} {n : Nat} (h : idx l i = some v) (hn : n = l.length) : (decide (0 ≤ i) && decide (i < (n : Int))) = true := by
 obtain ⟨h1, h2, _⟩ := Q16 h
 simp [h1, hn, h2]
theorem Q85 {T : Type} {c : T → List PV} {e : Nat} (hc : ∀ v, (c v).length = e) : ∀ (l : List T) (i : Nat) (v : T), l[i]? = some v → ∃ r, (Zk c l).drop (i * e) = (c v).map AV.p ++ r
 | [], i, v, h => by simp at h
 | u :: l, 0, v, h => by simp at h; subst h; exact ⟨Zk c l, by simp [Zk]⟩
 | u :: l, i + 1, v, h => by
  obtain ⟨r, hr⟩ := Q85 hc l i v (by simpa using h)
  refine ⟨r, ?_⟩
  have : (i + 1) * e = ((c u).map AV.p).length + i * e := by simp [hc, Nat.succ_mul]; omega
  rw [Zk, this, ← List.drop_drop, List.drop_left]; exact hr
theorem Qj2 {T : Type} {c : T → List PV} {e : Nat} (hc : ∀ v, (c v).length = e) {l : List T} {i : Int} {v : T} (hv : idx l i = some v) {off n : Nat} {b : Bool} {k : AV → Prop} (hn : off + n ≤ e) {j : Nat} (hj : j = i.toNat * e + off)
  (h : Wx (EP P Gl) b ((((c v).drop off).take n).map AV.p) k) : Q0b j (Zk c l) (fun cs => Q1q (EP P Gl) n cs (fun cs => Wx (EP P Gl) b cs k)) := by
 subst hj
 obtain ⟨_, _, h3⟩ := Q16 hv
 obtain ⟨r, hr⟩ := Q85 hc l _ v h3
 have e1 : (Zk c l).drop (i.toNat * e + off) = ((c v).map AV.p).drop off ++ r := by
  rw [← List.drop_drop, hr, List.drop_append_of_le_length (by simp [hc]; omega)]
 rw [Xx, e1, Wn]
 have e2 : (((c v).map AV.p).drop off ++ r).take n = (((c v).drop off).take n).map AV.p := by
  rw [List.take_append_of_le_length (by simp [hc]; omega), ← List.map_drop, ← List.map_take]
 unfold Wv
 rw [e2, if_pos (by simp [hc]; omega)]
 exact h
theorem Qkh {l : List Int} {n : Nat} (hn : n = l.length) {k : List UInt8 → Prop} (h : k (l.map fun n => UInt8.ofNat n.toNat)) : Q1q (EP P Gl) n (Zk (cI .u8) l) (fun cs => Ju (EP P Gl) k cs) := by
 subst hn
 have h1 : (Zk (cI .u8) l).length = l.length := by rw [Vg (e := 1) (fun _ => rfl)]; omega
 rw [Wn]
 unfold Wv
 rw [List.take_of_length_le (by omega), if_pos h1]
 show Ju (EP P Gl) k (Zk (cI .u8) l)
 rw [Q3k]
 have : ∀ l : List Int, Qbn (Zk (cI .u8) l) = some (l.map fun n => UInt8.ofNat n.toNat) := by
  intro l
  induction l with
  | nil => simp [Zk, Qbn]
  | cons b l ih => simp [Zk, Qbn, ih]
 rw [this]; exact h
theorem Qk2 (l : List Int) : Zk (cI .u8) l = l.map fun n => AV.p (.int .u8 n) := by
 induction l with
 | nil => rfl
 | cons b l ih => rw [Zk, ih]; rfl
theorem Q8j (l : List Int) (off n : Nat) : ((Zk (cI .u8) l).drop off).take n = Zk (cI .u8) ((l.drop off).take n) := by
 rw [Qk2, Qk2, ← List.map_drop, ← List.map_take]
theorem Qhu {l : List Int} {off n : Nat} (hn : off + n ≤ l.length) {k : List UInt8 → Prop} (h : k (((l.drop off).take n).map fun n => UInt8.ofNat n.toNat)) : Q0b off (Zk (cI .u8) l) (fun cs => Q1q (EP P Gl) n cs (fun cs => Ju (EP P Gl) k cs)) := by
 have h1 : ((l.drop off).take n).length = n := by rw [List.length_take, List.length_drop]; omega
 have := Qkh (P := P) (Gl := Gl) (l := (l.drop off).take n) h1.symm h
 rw [Xx, Wn]
 rw [Wn] at this
 have e : Wv n ((Zk (cI .u8) l).drop off) = Wv n (Zk (cI .u8) ((l.drop off).take n)) := by
  unfold Wv
  rw [Q8j, List.take_of_length_le (l := Zk (cI .u8) ((l.drop off).take n)) (by rw [Vg (e := 1) (fun _ => rfl)]; omega)]
 rw [e]; exact this
theorem Qbu {l : List Int} {off n : Nat} (hn : off + n ≤ l.length) {k : List AV → Prop} (h : k (Zk (cI .u8) ((l.drop off).take n))) : Q0b off (Zk (cI .u8) l) (fun cs => Q1q (EP P Gl) n cs k) := by
 rw [Xx, Wn]
 have e : Wv n ((Zk (cI .u8) l).drop off) = some (Zk (cI .u8) ((l.drop off).take n)) := by
  unfold Wv
  rw [Q8j, if_pos (by rw [Vg (e := 1) (fun _ => rfl), List.length_take, List.length_drop]; omega)]
 rw [e]; exact h
theorem Ql6 {b : List UInt8} {k : List AV → Prop} (h : k (Zk (cI .u8) (b.map fun x => (x.toNat : Int)))) :
  @List.rec UInt8 (fun _ => Up hi9 ((List AV → Prop) → Prop)) (fun k => k []) (fun v _ ih k => ih fun r => k (AV.p (.int .u8 (v.toNat : Int)) :: r)) b k := by
 have e : ∀ b : List UInt8, Zk (cI .u8) (b.map fun x => (x.toNat : Int)) = b.map fun x => AV.p (.int .u8 (x.toNat : Int)) := by
  intro b
  induction b with
  | nil => rfl
  | cons x b ih => simp [Zk, cI]; simpa [cI] using ih
 rw [e] at h
 have := Ym (α := Prop) (fun x : UInt8 => AV.p (.int .u8 (x.toNat : Int))) b k
 show Q2i (fun x : UInt8 => AV.p (.int .u8 (x.toNat : Int))) b k
 rw [this]; exact h
theorem Qf9 {T : Type} {c : T → List PV} {e : Nat} (hc : ∀ v, (c v).length = e) {l : List T} {i : Int} {v : T} (hv : idx l i = some v) {off n j m : Nat} (hj : j = i.toNat * e + off) (hm : m = n) (hn : off + n ≤ e) :
  (Nat.beq m n && Nat.ble (j + n) (Zk c l).length) = true := by
 obtain ⟨_, h2, _⟩ := Q16 hv
 have h3 : i.toNat + 1 ≤ l.length := by omega
 have := Nat.mul_le_mul_right e h3
 rw [Vg hc, hm, hj]
 simp only [Nat.beq_refl, Bool.true_and, Nat.ble_eq]
 rw [Nat.succ_mul] at this
 omega
theorem Qb7 {T : Type} {c : T → List PV} {e : Nat} (hc : ∀ v, (c v).length = e) : ∀ (l : List T) (i : Nat) (v v' : T) (off : Nat) (new : List AV), l[i]? = some v →
  (c v').map AV.p = ((c v).map AV.p).take off ++ (new ++ ((c v).map AV.p).drop (off + new.length)) → off + new.length ≤ e →
  Zk c (l.set i v') = (Zk c l).take (i * e + off) ++ (new ++ (Zk c l).drop (i * e + off + new.length))
 | [], i, v, v', off, new, h, _, _ => by simp at h
 | u :: l, 0, v, v', off, new, h, hn, hl => by
  simp at h; subst h
  have h1 : ((c u).map AV.p).length = e := by simp [hc]
  simp only [List.set_cons_zero, Zk, Nat.zero_mul, Nat.zero_add]
  rw [List.take_append_of_le_length (by omega), List.drop_append_of_le_length (by omega), hn]
  simp
 | u :: l, i + 1, v, v', off, new, h, hn, hl => by
  have h1 : ((c u).map AV.p).length = e := by simp [hc]
  have ih := Qb7 hc l i v v' off new (by simpa using h) hn hl
  have e1 : (i + 1) * e + off = ((c u).map AV.p).length + (i * e + off) := by rw [h1, Nat.succ_mul]; omega
  simp only [List.set_cons_succ, Zk]
  rw [e1, Nat.add_assoc, List.take_length_add_append, List.drop_length_add_append, ih]
  simp
theorem Qev {T : Type} {c : T → List PV} {e : Nat} (hc : ∀ v, (c v).length = e) {l : List T} {i : Int} {v : T} (hv : idx l i = some v) (v' : T) {off j : Nat} {new : List AV} (hj : j = i.toNat * e + off)
  (hnew : (c v').map AV.p = ((c v).map AV.p).take off ++ (new ++ ((c v).map AV.p).drop (off + new.length))) (hlen : off + new.length ≤ e) {k : List AV → Prop} (h : k (Zk c (l.set i.toNat v'))) : Gf (Zk c l) j new k := by
 obtain ⟨_, _, h3⟩ := Q16 hv
 rw [J6, Wk, hj, ← Qb7 hc l i.toNat v v' off new h3 hnew hlen]
 exact h
theorem Qdy {T : Type} {c : T → List PV} {e : Nat} (hc : ∀ v, (c v).length = e) {cs : List PV} {l : List T} (hl : cs = (Qq c l).flatten) {i : Int} {v : T} (hv : idx l i = some v) {off n : Nat} {b : Bool} {k : AV → Prop} (hn : off + n ≤ e) {j : Nat} (hj : j = i.toNat * e + off)
  (h : Wx (EP P Gl) b ((((c v).drop off).take n).map AV.p) k) : Q0b j cs (fun cs => Q2i AV.p cs (fun cs => Q1q (EP P Gl) n cs (fun cs => Wx (EP P Gl) b cs k))) := by
 have h1 := Qj2 hc hv hn hj h
 rw [Q2f, ← hl, Xx] at h1
 rw [Xx, Ym, List.map_drop]
 exact h1
theorem Q3h {T : Type} {c : T → List PV} (hc : ∀ v, (c v).length = 1) {l : List T} {n : Nat} (hn : n = l.length) (h : Nat.ble 1 n = true) : (Nat.beq 1 1 && (Nat.ble (0 + n) (Zk c l).length && Nat.ble 1 n)) = true := by
 rw [h, Vg hc, hn]; simp
theorem Q7k {T : Type} {c : T → List PV} (hc : ∀ v, (c v).length = 1) {l new : List T} {len : Nat} {k : Nat → List AV → Prop} (h : k (new.take len).length (Zk c (new.take len ++ l.drop (new.take len).length))) :
  Q3m len (Zk c new) (Zk c l) 0 k := by
 have dr : ∀ (l : List T) n, (Zk c l).drop n = Zk c (l.drop n) := by
  intro l
  induction l with
  | nil => intro n; simp [Zk]
  | cons v l ih =>
   intro n
   cases n with
   | zero => rfl
   | succ n =>
    have h1 : ((c v).map AV.p).length = 1 := by simp [hc]
    rw [Zk, List.drop_succ_cons, ← ih n, show n + 1 = ((c v).map AV.p).length + n by omega, ← List.drop_drop, List.drop_left]
 have tk : ∀ (l : List T) n, (Zk c l).take n = Zk c (l.take n) := by
  intro l
  induction l with
  | nil => intro n; simp [Zk]
  | cons v l ih =>
   intro n
   cases n with
   | zero => rfl
   | succ n =>
    have h1 : ((c v).map AV.p).length = 1 := by simp [hc]
    rw [Zk, List.take_succ_cons, Zk, ← ih n, show n + 1 = ((c v).map AV.p).length + n by omega, List.take_length_add_append]
 unfold Q3m
 rw [Gr, Q50, J6, Wk, tk, Vg hc, Nat.mul_one, Nat.zero_add, dr, List.take_zero, List.nil_append, ← Q6v]
 exact h
theorem Qil {len off : Nat} {new cs : List AV} {k : Nat → List AV → Prop} (h : Qa2 len new fun new => Qkt new fun n => Gf cs off new fun cs => k n cs) : Q3m len new cs off k := h
theorem Qmm {s : List UInt8} : s = [] ++ s.drop 0 := rfl
theorem Qhp {s l : List UInt8} {n : Nat} (h : s = l ++ s.drop n) {y : UInt8} (hy : idx s (n : Int) = some y) : s = (l ++ [y]) ++ s.drop (n + 1) := by
 have h1 : s[n]? = some y := hy
 have : s.drop n = y :: s.drop (n + 1) := by
  obtain ⟨h2, h3⟩ := List.getElem?_eq_some_iff.1 h1
  rw [List.drop_eq_getElem_cons h2, h3]
 rw [List.append_assoc]
 rw [this] at h
 exact h
theorem Ql9 {s l r : List UInt8} (e : s = l ++ r) {k : List AV → Prop} (h : k ((l.map fun x => AV.p (.int .u8 (x.toNat : Int))) ++ r.map fun x => AV.p (.int .u8 (x.toNat : Int)))) :
  @List.rec UInt8 (fun _ => Up hi9 ((List AV → Prop) → Prop)) (fun k => k []) (fun v _ ih k => ih fun r => k (AV.p (.int .u8 (v.toNat : Int)) :: r)) s k := by
 rw [← List.map_append, ← e] at h
 show Q2i (fun x : UInt8 => AV.p (.int .u8 (x.toNat : Int))) s k
 rw [Ym]; exact h
end
end
end Go.Av
