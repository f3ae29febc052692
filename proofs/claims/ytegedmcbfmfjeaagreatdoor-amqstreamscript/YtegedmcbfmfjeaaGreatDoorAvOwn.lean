/- An abstract machine for the modelled code, and what its runs say of real calls. Part of a proof of a given statement: for every input the law returns true and the arguments read as before; no condition beyond the given row. -/
import Derived.Test.YtegedmcbfmfjeaaGreatDoorAvLift
import Derived.Test.YtegedmcbfmfjeaaGreatDoorAvJoin
namespace Go.Av
noncomputable section
section
variable {P : Program} {Gl : Nat → Option (List PV)}
def Yf {T : Type} (c : T → List PV) : List T → List AV
 | [] => []
 | v :: l => (c v).map AV.p ++ Yf c l
theorem Qaw {T : Type} (c : T → List PV) (l m : List T) : Yf c (l ++ m) = Yf c l ++ Yf c m := by
 induction l with
 | nil => rfl
 | cons v l ih => simp [Yf, ih]
theorem Jp {T : Type} {c : T → List PV} {e : Nat} (hc : ∀ v, (c v).length = e) (l : List T) : (Yf c l).length = l.length * e := by
 induction l with
 | nil => simp [Yf]
 | cons v l ih => simp [Yf, ih, hc, Nat.succ_mul]; omega
theorem Q6l {T : Type} (c : T → List PV) (l : List T) : Yf c l = (Qv c l).flatten.map AV.p := by
 induction l with
 | nil => rfl
 | cons v l ih => simp [Yf, ih, Qv]
theorem U1 {T : Type} {c : T → List PV} {l : List T} {new : List AV} (vs : List T) {k : List AV → Prop} (e : new = Yf c vs) (h : k (Yf c (l ++ vs))) : Qca (Yf c l) new k := by
 rw [Jd, e, ← Qaw]; exact h
theorem Wu {T : Type} {c : T → List PV} {e : Nat} (hc : ∀ v, (c v).length = e) {l : List T} {g : Bool} {n : Nat} (hn : n = l.length) (h : g = true) : (Nat.beq e e && (Nat.beq (0 + n * e) (Yf c l).length && g)) = true := by
 rw [h, Jp hc, hn]; simp
theorem Q2 {T : Type} (c : T → List PV) (l : List T) (n : Nat) : Jz n (.cells (Yf c l)) = true := by
 have : ∀ ps : List PV, refsLt.refsLts n (ps.map AV.p) = true := by
  intro ps
  induction ps with
  | nil => rfl
  | cons p ps ih => simp [refsLt.refsLts, refsLt, ih]
 rw [Q6l]; exact this _
theorem Qiq {T : Type} (ρ : Nat → Nat) (c : T → List PV) (l : List T) : Qkx ρ (.cells (Yf c l)) = .cells (Yf c l) := by
 have : ∀ ps : List PV, Q8m ρ (ps.map AV.p) = ps.map AV.p := by
  intro ps
  induction ps with
  | nil => rfl
  | cons p ps ih => simp [Q8m, Q2e, ih]
 simp only [Qkx, Q6l, this]
theorem hO {T : Type} {c : T → List PV} {l : List T} {ρ : Nat → Nat} {K : Nat → Prop} {H : List AObj} {i : Nat} {r : List AObj} (e : H[ρ i]? = some (.cells (Yf c l))) (h : Q89 ρ K H (i + 1) r) : Q89 ρ K H i (.cells (Yf c l) :: r) :=
 hE (by rw [Qiq]; exact e) h
theorem Qj1 {T : Type} {c : T → List PV} : ∀ (l : List T) (k : Nat), Yf c l = Yf c (l.take k) ++ Yf c (l.drop k) := fun l k => by rw [← Qaw, List.take_append_drop]
theorem Qq1 {T : Type} {c : T → List PV} {l : List T} (k : Nat) {ρ : Nat → Nat} {K : Nat → Prop} {H : List AObj} {i : Nat} {r : List AObj} (e : H[ρ i]? = some (.cells (Yf c l))) (h : Q89 ρ K H (i + 1) r) : Q89 ρ K H i (.cells (Yf c (l.take k)) :: r) := by
 refine hX (.inl ⟨_, e, .inr ⟨Yf c (l.take k), _, Yf c (l.drop k), by rw [← Qj1], rfl, ?_⟩⟩) h
 have g : ∀ ps : List PV, Q5x ρ K H (ps.map AV.p) (ps.map AV.p) := by
  intro ps
  induction ps with
  | nil => exact rN
  | cons p ps ih => exact rC (.same (.p p)) ih
 have q : ∀ l : List T, Yf c l = (l.flatMap c).map AV.p := by
  intro l
  induction l with
  | nil => rfl
  | cons v l ih => rw [Yf, ih, List.flatMap_cons, List.map_append]
 rw [q]; exact g _
theorem roN {f : AObj → Bool} : ([] : List AObj).all f = true := rfl
theorem roE {f : AObj → Bool} {o : AObj} {r : List AObj} (h : f o = true) (t : r.all f = true) : (o :: r).all f = true := by simp [h, t]
def rho (l : List Nat) (i : Nat) : Nat := l.getD i i
theorem frz_own {T : Type} {c : T → List PV} {e : Nat} (hc : ∀ v, (c v).length = e) {K : Nat → Prop} {H : List AObj} {a n : Nat} {l : List T} (ho : H[a]? = some (.cells (Yf c l))) (hk : K a) (hn : n = l.length) :
  Frz K H (.slice e a 0 n) (.slice e (Qv c l)) := by
 subst hn
 have hl : (Qv c l).flatten.length = l.length * e := by
  have := Jp hc l
  rw [Q6l, List.length_map] at this; exact this
 have hcs : ((Yf c l).drop 0).take (l.length * e) = Yf c l := by
  rw [List.drop_zero]; exact List.take_of_length_le (by rw [Jp hc]; exact Nat.le_refl _)
 refine .slice e a 0 l.length (Yf c l) (Qv c l) hk ho (Vh c l) (fun r hr => ?_) ?_ (fun i v x hv hx => ?_)
 ·simp only [Qv, List.mem_map] at hr
  obtain ⟨y, _, rfl⟩ := hr
  exact hc y
 ·rw [hcs, Jp hc, hl]
 ·rw [hcs, Q6l, List.getElem?_map, hx] at hv
  cases hv
  exact .p _
theorem Qjr {α : Type} {i : Int} : idx ([] : List α) i = none := by cases i <;> rfl
theorem Q44 {α : Type} {l : List α} {i : Int} {v : α} (h : idx l i = some v) : 0 ≤ i ∧ i < l.length ∧ l[i.toNat]? = some v := by
 cases i with
 | ofNat n =>
  simp only [idx] at h
  have := (List.getElem?_eq_some_iff.1 h).1
  exact ⟨Int.natCast_nonneg n, by show (n : Int) < l.length; omega, h⟩
 | negSucc n => cases h
theorem Qe1 {α : Type} {l : List α} {i : Int} {v : α} {n : Nat} (h : idx l i = some v) (hn : n = l.length) : (decide (0 ≤ i) && decide (i < (n : Int))) = true := by
 obtain ⟨h1, h2, _⟩ := Q44 h
 simp [h1, hn, h2]
theorem Qcv {T : Type} {c : T → List PV} {e : Nat} (hc : ∀ v, (c v).length = e) : ∀ (l : List T) (i : Nat) (v : T), l[i]? = some v → ∃ r, (Yf c l).drop (i * e) = (c v).map AV.p ++ r
 | [], i, v, h => by simp at h
 | u :: l, 0, v, h => by simp at h; subst h; exact ⟨Yf c l, by simp [Yf]⟩
 | u :: l, i + 1, v, h => by
  obtain ⟨r, hr⟩ := Qcv hc l i v (by simpa using h)
  refine ⟨r, ?_⟩
  have : (i + 1) * e = ((c u).map AV.p).length + i * e := by simp [hc, Nat.succ_mul]; omega
  rw [Yf, this, ← List.drop_drop, List.drop_left]; exact hr
theorem Qnr {T : Type} {c : T → List PV} {e : Nat} (hc : ∀ v, (c v).length = e) {l : List T} {i : Int} {v : T} (hv : idx l i = some v) {off n : Nat} {b : Bool} {k : AV → Prop} (hn : off + n ≤ e) {j : Nat} (hj : j = i.toNat * e + off)
  (h : Je (EP P Gl) b ((((c v).drop off).take n).map AV.p) k) : Q33 j (Yf c l) (fun cs => Q4j (EP P Gl) n cs (fun cs => Je (EP P Gl) b cs k)) := by
 subst hj
 obtain ⟨_, _, h3⟩ := Q44 hv
 obtain ⟨r, hr⟩ := Qcv hc l _ v h3
 have e1 : (Yf c l).drop (i.toNat * e + off) = ((c v).map AV.p).drop off ++ r := by
  rw [← List.drop_drop, hr, List.drop_append_of_le_length (by simp [hc]; omega)]
 rw [Vv, e1, Ur]
 have e2 : (((c v).map AV.p).drop off ++ r).take n = (((c v).drop off).take n).map AV.p := by
  rw [List.take_append_of_le_length (by simp [hc]; omega), ← List.map_drop, ← List.map_take]
 unfold J0
 rw [e2, if_pos (by simp [hc]; omega)]
 exact h
theorem Qoo {l : List Int} {n : Nat} (hn : n = l.length) {k : List UInt8 → Prop} (h : k (l.map fun n => UInt8.ofNat n.toNat)) : Q4j (EP P Gl) n (Yf (cI .u8) l) (fun cs => Q13 (EP P Gl) k cs) := by
 subst hn
 have h1 : (Yf (cI .u8) l).length = l.length := by rw [Jp (e := 1) (fun _ => rfl)]; omega
 rw [Ur]
 unfold J0
 rw [List.take_of_length_le (by omega), if_pos h1]
 show Q13 (EP P Gl) k (Yf (cI .u8) l)
 rw [Q7b]
 have : ∀ l : List Int, Qf6 (Yf (cI .u8) l) = some (l.map fun n => UInt8.ofNat n.toNat) := by
  intro l
  induction l with
  | nil => simp [Yf, Qf6]
  | cons b l ih => simp [Yf, Qf6, ih]
 rw [this]; exact h
theorem Qpw (l : List Int) : Yf (cI .u8) l = l.map fun n => AV.p (.int .u8 n) := by
 induction l with
 | nil => rfl
 | cons b l ih => rw [Yf, ih]; rfl
theorem Qck (l : List Int) (off n : Nat) : ((Yf (cI .u8) l).drop off).take n = Yf (cI .u8) ((l.drop off).take n) := by
 rw [Qpw, Qpw, ← List.map_drop, ← List.map_take]
theorem Qmy {l : List Int} {off n : Nat} (hn : off + n ≤ l.length) {k : List UInt8 → Prop} (h : k (((l.drop off).take n).map fun n => UInt8.ofNat n.toNat)) : Q33 off (Yf (cI .u8) l) (fun cs => Q4j (EP P Gl) n cs (fun cs => Q13 (EP P Gl) k cs)) := by
 have h1 : ((l.drop off).take n).length = n := by rw [List.length_take, List.length_drop]; omega
 have := Qoo (P := P) (Gl := Gl) (l := (l.drop off).take n) h1.symm h
 rw [Vv, Ur]
 rw [Ur] at this
 have e : J0 n ((Yf (cI .u8) l).drop off) = J0 n (Yf (cI .u8) ((l.drop off).take n)) := by
  unfold J0
  rw [Qck, List.take_of_length_le (l := Yf (cI .u8) ((l.drop off).take n)) (by rw [Jp (e := 1) (fun _ => rfl)]; omega)]
 rw [e]; exact this
theorem Qex {l : List Int} {off n : Nat} (hn : off + n ≤ l.length) {k : List AV → Prop} (h : k (Yf (cI .u8) ((l.drop off).take n))) : Q33 off (Yf (cI .u8) l) (fun cs => Q4j (EP P Gl) n cs k) := by
 rw [Vv, Ur]
 have e : J0 n ((Yf (cI .u8) l).drop off) = some (Yf (cI .u8) ((l.drop off).take n)) := by
  unfold J0
  rw [Qck, if_pos (by rw [Jp (e := 1) (fun _ => rfl), List.length_take, List.length_drop]; omega)]
 rw [e]; exact h
theorem Qp1 {b : List UInt8} {k : List AV → Prop} (h : k (Yf (cI .u8) (b.map fun x => (x.toNat : Int)))) :
  @List.rec UInt8 (fun _ => Up hi9 ((List AV → Prop) → Prop)) (fun k => k []) (fun v _ ih k => ih fun r => k (AV.p (.int .u8 (v.toNat : Int)) :: r)) b k := by
 have e : ∀ b : List UInt8, Yf (cI .u8) (b.map fun x => (x.toNat : Int)) = b.map fun x => AV.p (.int .u8 (x.toNat : Int)) := by
  intro b
  induction b with
  | nil => rfl
  | cons x b ih => simp [Yf, cI]; simpa [cI] using ih
 rw [e] at h
 have := Wm (α := Prop) (fun x : UInt8 => AV.p (.int .u8 (x.toNat : Int))) b k
 show Q5g (fun x : UInt8 => AV.p (.int .u8 (x.toNat : Int))) b k
 rw [this]; exact h
theorem Qhs {T : Type} {c : T → List PV} {e : Nat} (hc : ∀ v, (c v).length = e) {l : List T} {i : Int} {v : T} (hv : idx l i = some v) {off n j m : Nat} (hj : j = i.toNat * e + off) (hm : m = n) (hn : off + n ≤ e) :
  (Nat.beq m n && Nat.ble (j + n) (Yf c l).length) = true := by
 obtain ⟨_, h2, _⟩ := Q44 hv
 have h3 : i.toNat + 1 ≤ l.length := by omega
 have := Nat.mul_le_mul_right e h3
 rw [Jp hc, hm, hj]
 simp only [Nat.beq_refl, Bool.true_and, Nat.ble_eq]
 rw [Nat.succ_mul] at this
 omega
theorem Qf3 {T : Type} {c : T → List PV} {e : Nat} (hc : ∀ v, (c v).length = e) : ∀ (l : List T) (i : Nat) (v v' : T) (off : Nat) (new : List AV), l[i]? = some v →
  (c v').map AV.p = ((c v).map AV.p).take off ++ (new ++ ((c v).map AV.p).drop (off + new.length)) → off + new.length ≤ e →
  Yf c (l.set i v') = (Yf c l).take (i * e + off) ++ (new ++ (Yf c l).drop (i * e + off + new.length))
 | [], i, v, v', off, new, h, _, _ => by simp at h
 | u :: l, 0, v, v', off, new, h, hn, hl => by
  simp at h; subst h
  have h1 : ((c u).map AV.p).length = e := by simp [hc]
  simp only [List.set_cons_zero, Yf, Nat.zero_mul, Nat.zero_add]
  rw [List.take_append_of_le_length (by omega), List.drop_append_of_le_length (by omega), hn]
  simp
 | u :: l, i + 1, v, v', off, new, h, hn, hl => by
  have h1 : ((c u).map AV.p).length = e := by simp [hc]
  have ih := Qf3 hc l i v v' off new (by simpa using h) hn hl
  have e1 : (i + 1) * e + off = ((c u).map AV.p).length + (i * e + off) := by rw [h1, Nat.succ_mul]; omega
  simp only [List.set_cons_succ, Yf]
  rw [e1, Nat.add_assoc, List.take_length_add_append, List.drop_length_add_append, ih]
  simp
theorem Qjj {T : Type} {c : T → List PV} {e : Nat} (hc : ∀ v, (c v).length = e) {l : List T} {i : Int} {v : T} (hv : idx l i = some v) (v' : T) {off j : Nat} {new : List AV} (hj : j = i.toNat * e + off)
  (hnew : (c v').map AV.p = ((c v).map AV.p).take off ++ (new ++ ((c v).map AV.p).drop (off + new.length))) (hlen : off + new.length ≤ e) {k : List AV → Prop} (h : k (Yf c (l.set i.toNat v'))) : Q1x (Yf c l) j new k := by
 obtain ⟨_, _, h3⟩ := Q44 hv
 rw [Q08, Uk, hj, ← Qf3 hc l i.toNat v v' off new h3 hnew hlen]
 exact h
theorem Qhj {T : Type} {c : T → List PV} {e : Nat} (hc : ∀ v, (c v).length = e) {cs : List PV} {l : List T} (hl : cs = (Qv c l).flatten) {i : Int} {v : T} (hv : idx l i = some v) {off n : Nat} {b : Bool} {k : AV → Prop} (hn : off + n ≤ e) {j : Nat} (hj : j = i.toNat * e + off)
  (h : Je (EP P Gl) b ((((c v).drop off).take n).map AV.p) k) : Q33 j cs (fun cs => Q5g AV.p cs (fun cs => Q4j (EP P Gl) n cs (fun cs => Je (EP P Gl) b cs k))) := by
 have h1 := Qnr hc hv hn hj h
 rw [Q6l, ← hl, Vv] at h1
 rw [Vv, Wm, List.map_drop]
 exact h1
theorem Q62 {T : Type} {c : T → List PV} (hc : ∀ v, (c v).length = 1) {l : List T} {n : Nat} (hn : n = l.length) (h : Nat.ble 1 n = true) : (Nat.beq 1 1 && (Nat.ble (0 + n) (Yf c l).length && Nat.ble 1 n)) = true := by
 rw [h, Jp hc, hn]; simp
theorem Qb1 {T : Type} {c : T → List PV} (hc : ∀ v, (c v).length = 1) {l new : List T} {len : Nat} {k : Nat → List AV → Prop} (h : k (new.take len).length (Yf c (new.take len ++ l.drop (new.take len).length))) :
  Q7o len (Yf c new) (Yf c l) 0 k := by
 have dr : ∀ (l : List T) n, (Yf c l).drop n = Yf c (l.drop n) := by
  intro l
  induction l with
  | nil => intro n; simp [Yf]
  | cons v l ih =>
   intro n
   cases n with
   | zero => rfl
   | succ n =>
    have h1 : ((c v).map AV.p).length = 1 := by simp [hc]
    rw [Yf, List.drop_succ_cons, ← ih n, show n + 1 = ((c v).map AV.p).length + n by omega, ← List.drop_drop, List.drop_left]
 have tk : ∀ (l : List T) n, (Yf c l).take n = Yf c (l.take n) := by
  intro l
  induction l with
  | nil => intro n; simp [Yf]
  | cons v l ih =>
   intro n
   cases n with
   | zero => rfl
   | succ n =>
    have h1 : ((c v).map AV.p).length = 1 := by simp [hc]
    rw [Yf, List.take_succ_cons, Yf, ← ih n, show n + 1 = ((c v).map AV.p).length + n by omega, List.take_length_add_append]
 unfold Q7o
 rw [Q2n, Q7k, Q08, Uk, tk, Jp hc, Nat.mul_one, Nat.zero_add, dr, List.take_zero, List.nil_append, ← Qaw]
 exact h
theorem Qof {len off : Nat} {new cs : List AV} {k : Nat → List AV → Prop} (h : Qe9 len new fun new => Qpc new fun n => Q1x cs off new fun cs => k n cs) : Q7o len new cs off k := h
theorem Qrw {s : List UInt8} : s = [] ++ s.drop 0 := rfl
theorem Qmh {s l : List UInt8} {n : Nat} (h : s = l ++ s.drop n) {y : UInt8} (hy : idx s (n : Int) = some y) : s = (l ++ [y]) ++ s.drop (n + 1) := by
 have h1 : s[n]? = some y := hy
 have : s.drop n = y :: s.drop (n + 1) := by
  obtain ⟨h2, h3⟩ := List.getElem?_eq_some_iff.1 h1
  rw [List.drop_eq_getElem_cons h2, h3]
 rw [List.append_assoc]
 rw [this] at h
 exact h
theorem Qpr {s l r : List UInt8} (e : s = l ++ r) {k : List AV → Prop} (h : k ((l.map fun x => AV.p (.int .u8 (x.toNat : Int))) ++ r.map fun x => AV.p (.int .u8 (x.toNat : Int)))) :
  @List.rec UInt8 (fun _ => Up hi9 ((List AV → Prop) → Prop)) (fun k => k []) (fun v _ ih k => ih fun r => k (AV.p (.int .u8 (v.toNat : Int)) :: r)) s k := by
 rw [← List.map_append, ← e] at h
 show Q5g (fun x : UInt8 => AV.p (.int .u8 (x.toNat : Int))) s k
 rw [Wm]; exact h
end
end
end Go.Av
