/- An abstract machine for the modelled code, and what its runs say of real calls. Part of a proof of a given statement: for every input the law returns true and the arguments read as before; no condition beyond the given row. -/
import Derived.Test.YtegedmcbfmfjeaaDoorAvLift
import Derived.Test.YtegedmcbfmfjeaaDoorAvJoin
namespace Go.Av
noncomputable section
section
variable {P : Program} {Gl : Nat → Option (List PV)}
def Z2 {T : Type} (c : T → List PV) : List T → List AV
 | [] => []
 | v :: l => (c v).map AV.p ++ Z2 c l
theorem Q3u {T : Type} (c : T → List PV) (l m : List T) : Z2 c (l ++ m) = Z2 c l ++ Z2 c m := by
 induction l with
 | nil => rfl
 | cons v l ih => simp [Z2, ih]
theorem W4 {T : Type} {c : T → List PV} {e : Nat} (hc : ∀ v, (c v).length = e) (l : List T) : (Z2 c l).length = l.length * e := by
 induction l with
 | nil => simp [Z2]
 | cons v l ih => simp [Z2, ih, hc, Nat.succ_mul]; omega
theorem Q18 {T : Type} (c : T → List PV) (l : List T) : Z2 c l = (Qp c l).flatten.map AV.p := by
 induction l with
 | nil => rfl
 | cons v l ih => simp [Z2, ih, Qp]
theorem W6 {T : Type} {c : T → List PV} {l : List T} {new : List AV} (vs : List T) {k : List AV → Prop} (e : new = Z2 c vs) (h : k (Z2 c (l ++ vs))) : Q5a (Z2 c l) new k := by
 rw [Xl, e, ← Q3u]; exact h
theorem Ys {T : Type} {c : T → List PV} {e : Nat} (hc : ∀ v, (c v).length = e) {l : List T} {g : Bool} {n : Nat} (hn : n = l.length) (h : g = true) : (Nat.beq e e && (Nat.beq (0 + n * e) (Z2 c l).length && g)) = true := by
 rw [h, W4 hc, hn]; simp
theorem Q2 {T : Type} (c : T → List PV) (l : List T) (n : Nat) : Wg n (.cells (Z2 c l)) = true := by
 have : ∀ ps : List PV, refsLt.refsLts n (ps.map AV.p) = true := by
  intro ps
  induction ps with
  | nil => rfl
  | cons p ps ih => simp [refsLt.refsLts, refsLt, ih]
 rw [Q18]; exact this _
theorem Q9h {T : Type} (ρ : Nat → Nat) (c : T → List PV) (l : List T) : Qba ρ (.cells (Z2 c l)) = .cells (Z2 c l) := by
 have : ∀ ps : List PV, Q2f ρ (ps.map AV.p) = ps.map AV.p := by
  intro ps
  induction ps with
  | nil => rfl
  | cons p ps ih => simp [Q2f, Ut, ih]
 simp only [Qba, Q18, this]
theorem hO {T : Type} {c : T → List PV} {l : List T} {ρ : Nat → Nat} {K : Nat → Prop} {H : List AObj} {i : Nat} {r : List AObj} (e : H[ρ i]? = some (.cells (Z2 c l))) (h : Q15 ρ K H (i + 1) r) : Q15 ρ K H i (.cells (Z2 c l) :: r) :=
 hE (by rw [Q9h]; exact e) h
theorem Qar {T : Type} {c : T → List PV} : ∀ (l : List T) (k : Nat), Z2 c l = Z2 c (l.take k) ++ Z2 c (l.drop k) := fun l k => by rw [← Q3u, List.take_append_drop]
theorem Qez {T : Type} {c : T → List PV} {l : List T} (k : Nat) {ρ : Nat → Nat} {K : Nat → Prop} {H : List AObj} {i : Nat} {r : List AObj} (e : H[ρ i]? = some (.cells (Z2 c l))) (h : Q15 ρ K H (i + 1) r) : Q15 ρ K H i (.cells (Z2 c (l.take k)) :: r) := by
 refine hX (.inl ⟨_, e, .inr ⟨Z2 c (l.take k), _, Z2 c (l.drop k), by rw [← Qar], rfl, ?_⟩⟩) h
 have g : ∀ ps : List PV, Q0q ρ K H (ps.map AV.p) (ps.map AV.p) := by
  intro ps
  induction ps with
  | nil => exact rN
  | cons p ps ih => exact rC (.same (.p p)) ih
 have q : ∀ l : List T, Z2 c l = (l.flatMap c).map AV.p := by
  intro l
  induction l with
  | nil => rfl
  | cons v l ih => rw [Z2, ih, List.flatMap_cons, List.map_append]
 rw [q]; exact g _
theorem roN {f : AObj → Bool} : ([] : List AObj).all f = true := rfl
theorem roE {f : AObj → Bool} {o : AObj} {r : List AObj} (h : f o = true) (t : r.all f = true) : (o :: r).all f = true := by simp [h, t]
def rho (l : List Nat) (i : Nat) : Nat := l.getD i i
theorem frz_own {T : Type} {c : T → List PV} {e : Nat} (hc : ∀ v, (c v).length = e) {K : Nat → Prop} {H : List AObj} {a n : Nat} {l : List T} (ho : H[a]? = some (.cells (Z2 c l))) (hk : K a) (hn : n = l.length) :
  Frz K H (.slice e a 0 n) (.slice e (Qp c l)) := by
 subst hn
 have hl : (Qp c l).flatten.length = l.length * e := by
  have := W4 hc l
  rw [Q18, List.length_map] at this; exact this
 have hcs : ((Z2 c l).drop 0).take (l.length * e) = Z2 c l := by
  rw [List.drop_zero]; exact List.take_of_length_le (by rw [W4 hc]; exact Nat.le_refl _)
 refine .slice e a 0 l.length (Z2 c l) (Qp c l) hk ho (Q4n c l) (fun r hr => ?_) ?_ (fun i v x hv hx => ?_)
 ·simp only [Qp, List.mem_map] at hr
  obtain ⟨y, _, rfl⟩ := hr
  exact hc y
 ·rw [hcs, W4 hc, hl]
 ·rw [hcs, Q18, List.getElem?_map, hx] at hv
  cases hv
  exact .p _
theorem Qao {α : Type} {i : Int} : idx ([] : List α) i = none := by cases i <;> rfl
theorem Gs {α : Type} {l : List α} {i : Int} {v : α} (h : idx l i = some v) : 0 ≤ i ∧ i < l.length ∧ l[i.toNat]? = some v := by
 cases i with
 | ofNat n =>
  simp only [idx] at h
  have := (List.getElem?_eq_some_iff.1 h).1
  exact ⟨Int.natCast_nonneg n, by show (n : Int) < l.length; omega, h⟩
 | negSucc n => cases h
theorem Q6e {α : Type} {l : List α} {i : Int} {v : α} {n : Nat} (h : idx l i = some v) (hn : n = l.length) : (decide (0 ≤ i) && decide (i < (n : Int))) = true := by
 obtain ⟨h1, h2, _⟩ := Gs h
 simp [h1, hn, h2]
theorem Q56 {T : Type} {c : T → List PV} {e : Nat} (hc : ∀ v, (c v).length = e) : ∀ (l : List T) (i : Nat) (v : T), l[i]? = some v → ∃ r, (Z2 c l).drop (i * e) = (c v).map AV.p ++ r
 | [], i, v, h => by simp at h
 | u :: l, 0, v, h => by simp at h; subst h; exact ⟨Z2 c l, by simp [Z2]⟩
 | u :: l, i + 1, v, h => by
  obtain ⟨r, hr⟩ := Q56 hc l i v (by simpa using h)
  refine ⟨r, ?_⟩
  have : (i + 1) * e = ((c u).map AV.p).length + i * e := by simp [hc, Nat.succ_mul]; omega
  rw [Z2, this, ← List.drop_drop, List.drop_left]; exact hr
theorem Qdg {T : Type} {c : T → List PV} {e : Nat} (hc : ∀ v, (c v).length = e) {l : List T} {i : Int} {v : T} (hv : idx l i = some v) {off n : Nat} {b : Bool} {k : AV → Prop} (hn : off + n ≤ e) {j : Nat} (hj : j = i.toNat * e + off)
  (h : Xr (EP P Gl) b ((((c v).drop off).take n).map AV.p) k) : Jp j (Z2 c l) (fun cs => G4 (EP P Gl) n cs (fun cs => Xr (EP P Gl) b cs k)) := by
 subst hj
 obtain ⟨_, _, h3⟩ := Gs hv
 obtain ⟨r, hr⟩ := Q56 hc l _ v h3
 have e1 : (Z2 c l).drop (i.toNat * e + off) = ((c v).map AV.p).drop off ++ r := by
  rw [← List.drop_drop, hr, List.drop_append_of_le_length (by simp [hc]; omega)]
 rw [Ym, e1, Xd]
 have e2 : (((c v).map AV.p).drop off ++ r).take n = (((c v).drop off).take n).map AV.p := by
  rw [List.take_append_of_le_length (by simp [hc]; omega), ← List.map_drop, ← List.map_take]
 unfold Xk
 rw [e2, if_pos (by simp [hc]; omega)]
 exact h
theorem Qen {l : List Int} {n : Nat} (hn : n = l.length) {k : List UInt8 → Prop} (h : k (l.map fun n => UInt8.ofNat n.toNat)) : G4 (EP P Gl) n (Z2 (cI .u8) l) (fun cs => Vy (EP P Gl) k cs) := by
 subst hn
 have h1 : (Z2 (cI .u8) l).length = l.length := by rw [W4 (e := 1) (fun _ => rfl)]; omega
 rw [Xd]
 unfold Xk
 rw [List.take_of_length_le (by omega), if_pos h1]
 show Vy (EP P Gl) k (Z2 (cI .u8) l)
 rw [Q20]
 have : ∀ l : List Int, Q7u (Z2 (cI .u8) l) = some (l.map fun n => UInt8.ofNat n.toNat) := by
  intro l
  induction l with
  | nil => simp [Z2, Q7u]
  | cons b l ih => simp [Z2, Q7u, ih]
 rw [this]; exact h
theorem Qdy (l : List Int) : Z2 (cI .u8) l = l.map fun n => AV.p (.int .u8 n) := by
 induction l with
 | nil => rfl
 | cons b l ih => rw [Z2, ih]; rfl
theorem Q5n (l : List Int) (off n : Nat) : ((Z2 (cI .u8) l).drop off).take n = Z2 (cI .u8) ((l.drop off).take n) := by
 rw [Qdy, Qdy, ← List.map_drop, ← List.map_take]
theorem Qcl {l : List Int} {off n : Nat} (hn : off + n ≤ l.length) {k : List UInt8 → Prop} (h : k (((l.drop off).take n).map fun n => UInt8.ofNat n.toNat)) : Jp off (Z2 (cI .u8) l) (fun cs => G4 (EP P Gl) n cs (fun cs => Vy (EP P Gl) k cs)) := by
 have h1 : ((l.drop off).take n).length = n := by rw [List.length_take, List.length_drop]; omega
 have := Qen (P := P) (Gl := Gl) (l := (l.drop off).take n) h1.symm h
 rw [Ym, Xd]
 rw [Xd] at this
 have e : Xk n ((Z2 (cI .u8) l).drop off) = Xk n (Z2 (cI .u8) ((l.drop off).take n)) := by
  unfold Xk
  rw [Q5n, List.take_of_length_le (l := Z2 (cI .u8) ((l.drop off).take n)) (by rw [W4 (e := 1) (fun _ => rfl)]; omega)]
 rw [e]; exact this
theorem Q76 {l : List Int} {off n : Nat} (hn : off + n ≤ l.length) {k : List AV → Prop} (h : k (Z2 (cI .u8) ((l.drop off).take n))) : Jp off (Z2 (cI .u8) l) (fun cs => G4 (EP P Gl) n cs k) := by
 rw [Ym, Xd]
 have e : Xk n ((Z2 (cI .u8) l).drop off) = some (Z2 (cI .u8) ((l.drop off).take n)) := by
  unfold Xk
  rw [Q5n, if_pos (by rw [W4 (e := 1) (fun _ => rfl), List.length_take, List.length_drop]; omega)]
 rw [e]; exact h
theorem Qeg {b : List UInt8} {k : List AV → Prop} (h : k (Z2 (cI .u8) (b.map fun x => (x.toNat : Int)))) :
  @List.rec UInt8 (fun _ => Up hi9 ((List AV → Prop) → Prop)) (fun k => k []) (fun v _ ih k => ih fun r => k (AV.p (.int .u8 (v.toNat : Int)) :: r)) b k := by
 have e : ∀ b : List UInt8, Z2 (cI .u8) (b.map fun x => (x.toNat : Int)) = b.map fun x => AV.p (.int .u8 (x.toNat : Int)) := by
  intro b
  induction b with
  | nil => rfl
  | cons x b ih => simp [Z2, cI]; simpa [cI] using ih
 rw [e] at h
 have := Zs (α := Prop) (fun x : UInt8 => AV.p (.int .u8 (x.toNat : Int))) b k
 show Q0f (fun x : UInt8 => AV.p (.int .u8 (x.toNat : Int))) b k
 rw [this]; exact h
theorem Qan {T : Type} {c : T → List PV} {e : Nat} (hc : ∀ v, (c v).length = e) {l : List T} {i : Int} {v : T} (hv : idx l i = some v) {off n j m : Nat} (hj : j = i.toNat * e + off) (hm : m = n) (hn : off + n ≤ e) :
  (Nat.beq m n && Nat.ble (j + n) (Z2 c l).length) = true := by
 obtain ⟨_, h2, _⟩ := Gs hv
 have h3 : i.toNat + 1 ≤ l.length := by omega
 have := Nat.mul_le_mul_right e h3
 rw [W4 hc, hm, hj]
 simp only [Nat.beq_refl, Bool.true_and, Nat.ble_eq]
 rw [Nat.succ_mul] at this
 omega
theorem Q7y {T : Type} {c : T → List PV} {e : Nat} (hc : ∀ v, (c v).length = e) : ∀ (l : List T) (i : Nat) (v v' : T) (off : Nat) (new : List AV), l[i]? = some v →
  (c v').map AV.p = ((c v).map AV.p).take off ++ (new ++ ((c v).map AV.p).drop (off + new.length)) → off + new.length ≤ e →
  Z2 c (l.set i v') = (Z2 c l).take (i * e + off) ++ (new ++ (Z2 c l).drop (i * e + off + new.length))
 | [], i, v, v', off, new, h, _, _ => by simp at h
 | u :: l, 0, v, v', off, new, h, hn, hl => by
  simp at h; subst h
  have h1 : ((c u).map AV.p).length = e := by simp [hc]
  simp only [List.set_cons_zero, Z2, Nat.zero_mul, Nat.zero_add]
  rw [List.take_append_of_le_length (by omega), List.drop_append_of_le_length (by omega), hn]
  simp
 | u :: l, i + 1, v, v', off, new, h, hn, hl => by
  have h1 : ((c u).map AV.p).length = e := by simp [hc]
  have ih := Q7y hc l i v v' off new (by simpa using h) hn hl
  have e1 : (i + 1) * e + off = ((c u).map AV.p).length + (i * e + off) := by rw [h1, Nat.succ_mul]; omega
  simp only [List.set_cons_succ, Z2]
  rw [e1, Nat.add_assoc, List.take_length_add_append, List.drop_length_add_append, ih]
  simp
theorem Q9e {T : Type} {c : T → List PV} {e : Nat} (hc : ∀ v, (c v).length = e) {l : List T} {i : Int} {v : T} (hv : idx l i = some v) (v' : T) {off j : Nat} {new : List AV} (hj : j = i.toNat * e + off)
  (hnew : (c v').map AV.p = ((c v).map AV.p).take off ++ (new ++ ((c v).map AV.p).drop (off + new.length))) (hlen : off + new.length ≤ e) {k : List AV → Prop} (h : k (Z2 c (l.set i.toNat v'))) : Uz (Z2 c l) j new k := by
 obtain ⟨_, _, h3⟩ := Gs hv
 rw [Vm, Xa, hj, ← Q7y hc l i.toNat v v' off new h3 hnew hlen]
 exact h
theorem Qa9 {T : Type} {c : T → List PV} {e : Nat} (hc : ∀ v, (c v).length = e) {cs : List PV} {l : List T} (hl : cs = (Qp c l).flatten) {i : Int} {v : T} (hv : idx l i = some v) {off n : Nat} {b : Bool} {k : AV → Prop} (hn : off + n ≤ e) {j : Nat} (hj : j = i.toNat * e + off)
  (h : Xr (EP P Gl) b ((((c v).drop off).take n).map AV.p) k) : Jp j cs (fun cs => Q0f AV.p cs (fun cs => G4 (EP P Gl) n cs (fun cs => Xr (EP P Gl) b cs k))) := by
 have h1 := Qdg hc hv hn hj h
 rw [Q18, ← hl, Ym] at h1
 rw [Ym, Zs, List.map_drop]
 exact h1
theorem Q0y {T : Type} {c : T → List PV} (hc : ∀ v, (c v).length = 1) {l : List T} {n : Nat} (hn : n = l.length) (h : Nat.ble 1 n = true) : (Nat.beq 1 1 && (Nat.ble (0 + n) (Z2 c l).length && Nat.ble 1 n)) = true := by
 rw [h, W4 hc, hn]; simp
theorem Q4f {T : Type} {c : T → List PV} (hc : ∀ v, (c v).length = 1) {l new : List T} {len : Nat} {k : Nat → List AV → Prop} (h : k (new.take len).length (Z2 c (new.take len ++ l.drop (new.take len).length))) :
  Q2j len (Z2 c new) (Z2 c l) 0 k := by
 have dr : ∀ (l : List T) n, (Z2 c l).drop n = Z2 c (l.drop n) := by
  intro l
  induction l with
  | nil => intro n; simp [Z2]
  | cons v l ih =>
   intro n
   cases n with
   | zero => rfl
   | succ n =>
    have h1 : ((c v).map AV.p).length = 1 := by simp [hc]
    rw [Z2, List.drop_succ_cons, ← ih n, show n + 1 = ((c v).map AV.p).length + n by omega, ← List.drop_drop, List.drop_left]
 have tk : ∀ (l : List T) n, (Z2 c l).take n = Z2 c (l.take n) := by
  intro l
  induction l with
  | nil => intro n; simp [Z2]
  | cons v l ih =>
   intro n
   cases n with
   | zero => rfl
   | succ n =>
    have h1 : ((c v).map AV.p).length = 1 := by simp [hc]
    rw [Z2, List.take_succ_cons, Z2, ← ih n, show n + 1 = ((c v).map AV.p).length + n by omega, List.take_length_add_append]
 unfold Q2j
 rw [J3, Q1w, Vm, Xa, tk, W4 hc, Nat.mul_one, Nat.zero_add, dr, List.take_zero, List.nil_append, ← Q3u]
 exact h
theorem Qcw {len off : Nat} {new cs : List AV} {k : Nat → List AV → Prop} (h : Q6v len new fun new => Qef new fun n => Uz cs off new fun cs => k n cs) : Q2j len new cs off k := h
theorem Qgb {s : List UInt8} : s = [] ++ s.drop 0 := rfl
theorem Qcn {s l : List UInt8} {n : Nat} (h : s = l ++ s.drop n) {y : UInt8} (hy : idx s (n : Int) = some y) : s = (l ++ [y]) ++ s.drop (n + 1) := by
 have h1 : s[n]? = some y := hy
 have : s.drop n = y :: s.drop (n + 1) := by
  obtain ⟨h2, h3⟩ := List.getElem?_eq_some_iff.1 h1
  rw [List.drop_eq_getElem_cons h2, h3]
 rw [List.append_assoc]
 rw [this] at h
 exact h
theorem Qdw {s l r : List UInt8} (e : s = l ++ r) {k : List AV → Prop} (h : k ((l.map fun x => AV.p (.int .u8 (x.toNat : Int))) ++ r.map fun x => AV.p (.int .u8 (x.toNat : Int)))) :
  @List.rec UInt8 (fun _ => Up hi9 ((List AV → Prop) → Prop)) (fun k => k []) (fun v _ ih k => ih fun r => k (AV.p (.int .u8 (v.toNat : Int)) :: r)) s k := by
 rw [← List.map_append, ← e] at h
 show Q0f (fun x : UInt8 => AV.p (.int .u8 (x.toNat : Int))) s k
 rw [Zs]; exact h
end
end
end Go.Av
