/- An abstract machine for the modelled code, and what its runs say of real calls. Part of a proof of a given statement: for every input the law returns true and the arguments read as before; no condition beyond the given row. -/
import Derived.Test.YtegedmcbfmfjeaaGreatDoorAvLift
import Derived.Test.YtegedmcbfmfjeaaGreatDoorAvJoin
namespace Go.Av
noncomputable section
section
variable {P : Program} {Gl : Nat → Option (List PV)}
def Y0 {T : Type} (c : T → List PV) : List T → List AV
 | [] => []
 | v :: l => (c v).map AV.p ++ Y0 c l
theorem Qcp {T : Type} (c : T → List PV) (l m : List T) : Y0 c (l ++ m) = Y0 c l ++ Y0 c m := by
 induction l with
 | nil => rfl
 | cons v l ih => simp [Y0, ih]
theorem Gt {T : Type} {c : T → List PV} {e : Nat} (hc : ∀ v, (c v).length = e) (l : List T) : (Y0 c l).length = l.length * e := by
 induction l with
 | nil => simp [Y0]
 | cons v l ih => simp [Y0, ih, hc, Nat.succ_mul]; omega
theorem Q78 {T : Type} (c : T → List PV) (l : List T) : Y0 c l = (Qi c l).flatten.map AV.p := by
 induction l with
 | nil => rfl
 | cons v l ih => simp [Y0, ih, Qi]
theorem Ub {T : Type} {c : T → List PV} {l : List T} {new : List AV} (vs : List T) {k : List AV → Prop} (e : new = Y0 c vs) (h : k (Y0 c (l ++ vs))) : Qex (Y0 c l) new k := by
 rw [Gb, e, ← Qcp]; exact h
theorem Wj {T : Type} {c : T → List PV} {e : Nat} (hc : ∀ v, (c v).length = e) {l : List T} {g : Bool} {n : Nat} (hn : n = l.length) (h : g = true) : (Nat.beq e e && (Nat.beq (0 + n * e) (Y0 c l).length && g)) = true := by
 rw [h, Gt hc, hn]; simp
theorem Q2 {T : Type} (c : T → List PV) (l : List T) (n : Nat) : Q02 n (.cells (Y0 c l)) = true := by
 have : ∀ ps : List PV, refsLt.refsLts n (ps.map AV.p) = true := by
  intro ps
  induction ps with
  | nil => rfl
  | cons p ps ih => simp [refsLt.refsLts, refsLt, ih]
 rw [Q78]; exact this _
theorem Qnx {T : Type} (ρ : Nat → Nat) (c : T → List PV) (l : List T) : Qok ρ (.cells (Y0 c l)) = .cells (Y0 c l) := by
 have : ∀ ps : List PV, Qb0 ρ (ps.map AV.p) = ps.map AV.p := by
  intro ps
  induction ps with
  | nil => rfl
  | cons p ps ih => simp [Qb0, Q3x, ih]
 simp only [Qok, Q78, this]
theorem hO {T : Type} {c : T → List PV} {l : List T} {ρ : Nat → Nat} {K : Nat → Prop} {H : List AObj} {i : Nat} {r : List AObj} (e : H[ρ i]? = some (.cells (Y0 c l))) (h : Q90 ρ K H (i + 1) r) : Q90 ρ K H i (.cells (Y0 c l) :: r) :=
 hE (by rw [Qnx]; exact e) h
theorem Qmf {T : Type} {c : T → List PV} : ∀ (l : List T) (k : Nat), Y0 c l = Y0 c (l.take k) ++ Y0 c (l.drop k) := fun l k => by rw [← Qcp, List.take_append_drop]
theorem Qux {T : Type} {c : T → List PV} {l : List T} (k : Nat) {ρ : Nat → Nat} {K : Nat → Prop} {H : List AObj} {i : Nat} {r : List AObj} (e : H[ρ i]? = some (.cells (Y0 c l))) (h : Q90 ρ K H (i + 1) r) : Q90 ρ K H i (.cells (Y0 c (l.take k)) :: r) := by
 refine hX (.inl ⟨_, e, .inr ⟨Y0 c (l.take k), _, Y0 c (l.drop k), by rw [← Qmf], rfl, ?_⟩⟩) h
 have g : ∀ ps : List PV, Q76 ρ K H (ps.map AV.p) (ps.map AV.p) := by
  intro ps
  induction ps with
  | nil => exact rN
  | cons p ps ih => exact rC (.same (.p p)) ih
 have q : ∀ l : List T, Y0 c l = (l.flatMap c).map AV.p := by
  intro l
  induction l with
  | nil => rfl
  | cons v l ih => rw [Y0, ih, List.flatMap_cons, List.map_append]
 rw [q]; exact g _
theorem roN {f : AObj → Bool} : ([] : List AObj).all f = true := rfl
theorem roE {f : AObj → Bool} {o : AObj} {r : List AObj} (h : f o = true) (t : r.all f = true) : (o :: r).all f = true := by simp [h, t]
def rho (l : List Nat) (i : Nat) : Nat := l.getD i i
theorem frz_own {T : Type} {c : T → List PV} {e : Nat} (hc : ∀ v, (c v).length = e) {K : Nat → Prop} {H : List AObj} {a n : Nat} {l : List T} (ho : H[a]? = some (.cells (Y0 c l))) (hk : K a) (hn : n = l.length) :
  Frz K H (.slice e a 0 n) (.slice e (Qi c l)) := by
 subst hn
 have hl : (Qi c l).flatten.length = l.length * e := by
  have := Gt hc l
  rw [Q78, List.length_map] at this; exact this
 have hcs : ((Y0 c l).drop 0).take (l.length * e) = Y0 c l := by
  rw [List.drop_zero]; exact List.take_of_length_le (by rw [Gt hc]; exact Nat.le_refl _)
 refine .slice e a 0 l.length (Y0 c l) (Qi c l) hk ho (Xr c l) (fun r hr => ?_) ?_ (fun i v x hv hx => ?_)
 ·simp only [Qi, List.mem_map] at hr
  obtain ⟨y, _, rfl⟩ := hr
  exact hc y
 ·rw [hcs, Gt hc, hl]
 ·rw [hcs, Q78, List.getElem?_map, hx] at hv
  cases hv
  exact .p _
theorem Qnq {α : Type} {i : Int} : idx ([] : List α) i = none := by cases i <;> rfl
theorem Q6y {α : Type} {l : List α} {i : Int} {v : α} (h : idx l i = some v) : 0 ≤ i ∧ i < l.length ∧ l[i.toNat]? = some v := by
 cases i with
 | ofNat n =>
  simp only [idx] at h
  have := (List.getElem?_eq_some_iff.1 h).1
  exact ⟨Int.natCast_nonneg n, by show (n : Int) < l.length; omega, h⟩
 | negSucc n => cases h
theorem Qdk {α : Type} {l : List α} {i : Int} {v : α} {n : Nat} (h : idx l i = some v) (hn : n = l.length) : (decide (0 ≤ i) && decide (i < (n : Int))) = true := by
 obtain ⟨h1, h2, _⟩ := Q6y h
 simp [h1, hn, h2]
theorem Qf4 {T : Type} {c : T → List PV} {e : Nat} (hc : ∀ v, (c v).length = e) : ∀ (l : List T) (i : Nat) (v : T), l[i]? = some v → ∃ r, (Y0 c l).drop (i * e) = (c v).map AV.p ++ r
 | [], i, v, h => by simp at h
 | u :: l, 0, v, h => by simp at h; subst h; exact ⟨Y0 c l, by simp [Y0]⟩
 | u :: l, i + 1, v, h => by
  obtain ⟨r, hr⟩ := Qf4 hc l i v (by simpa using h)
  refine ⟨r, ?_⟩
  have : (i + 1) * e = ((c u).map AV.p).length + i * e := by simp [hc, Nat.succ_mul]; omega
  rw [Y0, this, ← List.drop_drop, List.drop_left]; exact hr
theorem Qrv {T : Type} {c : T → List PV} {e : Nat} (hc : ∀ v, (c v).length = e) {l : List T} {i : Int} {v : T} (hv : idx l i = some v) {off n : Nat} {b : Bool} {k : AV → Prop} (hn : off + n ≤ e) {j : Nat} (hj : j = i.toNat * e + off)
  (h : G0 (EP P Gl) b ((((c v).drop off).take n).map AV.p) k) : Q5d j (Y0 c l) (fun cs => Q72 (EP P Gl) n cs (fun cs => G0 (EP P Gl) b cs k)) := by
 subst hj
 obtain ⟨_, _, h3⟩ := Q6y hv
 obtain ⟨r, hr⟩ := Qf4 hc l _ v h3
 have e1 : (Y0 c l).drop (i.toNat * e + off) = ((c v).map AV.p).drop off ++ r := by
  rw [← List.drop_drop, hr, List.drop_append_of_le_length (by simp [hc]; omega)]
 rw [Uq, e1, Jr]
 have e2 : (((c v).map AV.p).drop off ++ r).take n = (((c v).drop off).take n).map AV.p := by
  rw [List.take_append_of_le_length (by simp [hc]; omega), ← List.map_drop, ← List.map_take]
 unfold Jz
 rw [e2, if_pos (by simp [hc]; omega)]
 exact h
theorem Qu3 {l : List Int} {n : Nat} (hn : n = l.length) {k : List UInt8 → Prop} (h : k (l.map fun n => UInt8.ofNat n.toNat)) : Q72 (EP P Gl) n (Y0 (cI .u8) l) (fun cs => Q2n (EP P Gl) k cs) := by
 subst hn
 have h1 : (Y0 (cI .u8) l).length = l.length := by rw [Gt (e := 1) (fun _ => rfl)]; omega
 rw [Jr]
 unfold Jz
 rw [List.take_of_length_le (by omega), if_pos h1]
 show Q2n (EP P Gl) k (Y0 (cI .u8) l)
 rw [Q91]
 have : ∀ l : List Int, Qix (Y0 (cI .u8) l) = some (l.map fun n => UInt8.ofNat n.toNat) := by
  intro l
  induction l with
  | nil => simp [Y0, Qix]
  | cons b l ih => simp [Y0, Qix, ih]
 rw [this]; exact h
theorem Qtw (l : List Int) : Y0 (cI .u8) l = l.map fun n => AV.p (.int .u8 n) := by
 induction l with
 | nil => rfl
 | cons b l ih => rw [Y0, ih]; rfl
theorem Qfd (l : List Int) (off n : Nat) : ((Y0 (cI .u8) l).drop off).take n = Y0 (cI .u8) ((l.drop off).take n) := by
 rw [Qtw, Qtw, ← List.map_drop, ← List.map_take]
theorem Qr5 {l : List Int} {off n : Nat} (hn : off + n ≤ l.length) {k : List UInt8 → Prop} (h : k (((l.drop off).take n).map fun n => UInt8.ofNat n.toNat)) : Q5d off (Y0 (cI .u8) l) (fun cs => Q72 (EP P Gl) n cs (fun cs => Q2n (EP P Gl) k cs)) := by
 have h1 : ((l.drop off).take n).length = n := by rw [List.length_take, List.length_drop]; omega
 have := Qu3 (P := P) (Gl := Gl) (l := (l.drop off).take n) h1.symm h
 rw [Uq, Jr]
 rw [Jr] at this
 have e : Jz n ((Y0 (cI .u8) l).drop off) = Jz n (Y0 (cI .u8) ((l.drop off).take n)) := by
  unfold Jz
  rw [Qfd, List.take_of_length_le (l := Y0 (cI .u8) ((l.drop off).take n)) (by rw [Gt (e := 1) (fun _ => rfl)]; omega)]
 rw [e]; exact this
theorem Qj5 {l : List Int} {off n : Nat} (hn : off + n ≤ l.length) {k : List AV → Prop} (h : k (Y0 (cI .u8) ((l.drop off).take n))) : Q5d off (Y0 (cI .u8) l) (fun cs => Q72 (EP P Gl) n cs k) := by
 rw [Uq, Jr]
 have e : Jz n ((Y0 (cI .u8) l).drop off) = some (Y0 (cI .u8) ((l.drop off).take n)) := by
  unfold Jz
  rw [Qfd, if_pos (by rw [Gt (e := 1) (fun _ => rfl), List.length_take, List.length_drop]; omega)]
 rw [e]; exact h
theorem Qub {b : List UInt8} {k : List AV → Prop} (h : k (Y0 (cI .u8) (b.map fun x => (x.toNat : Int)))) :
  @List.rec UInt8 (fun _ => Up hi9 ((List AV → Prop) → Prop)) (fun k => k []) (fun v _ ih k => ih fun r => k (AV.p (.int .u8 (v.toNat : Int)) :: r)) b k := by
 have e : ∀ b : List UInt8, Y0 (cI .u8) (b.map fun x => (x.toNat : Int)) = b.map fun x => AV.p (.int .u8 (x.toNat : Int)) := by
  intro b
  induction b with
  | nil => rfl
  | cons x b ih => simp [Y0, cI]; simpa [cI] using ih
 rw [e] at h
 have := Wy (α := Prop) (fun x : UInt8 => AV.p (.int .u8 (x.toNat : Int))) b k
 show Q7o (fun x : UInt8 => AV.p (.int .u8 (x.toNat : Int))) b k
 rw [this]; exact h
theorem Qef {T : Type} {c : T → List PV} {e : Nat} (hc : ∀ v, (c v).length = e) {l : List T} {i : Int} {v : T} (hv : idx l i = some v) {off n j m : Nat} (hj : j = i.toNat * e + off) (hm : m = n) (hn : off + n ≤ e) :
  (Nat.beq m n && Nat.ble (j + n) (Y0 c l).length) = true := by
 obtain ⟨_, h2, _⟩ := Q6y hv
 have h3 : i.toNat + 1 ≤ l.length := by omega
 have := Nat.mul_le_mul_right e h3
 rw [Gt hc, hm, hj]
 simp only [Nat.beq_refl, Bool.true_and, Nat.ble_eq]
 rw [Nat.succ_mul] at this
 omega
theorem Qhv {T : Type} {c : T → List PV} {e : Nat} (hc : ∀ v, (c v).length = e) : ∀ (l : List T) (i : Nat) (v v' : T) (off : Nat) (new : List AV), l[i]? = some v →
  (c v').map AV.p = ((c v).map AV.p).take off ++ (new ++ ((c v).map AV.p).drop (off + new.length)) → off + new.length ≤ e →
  Y0 c (l.set i v') = (Y0 c l).take (i * e + off) ++ (new ++ (Y0 c l).drop (i * e + off + new.length))
 | [], i, v, v', off, new, h, _, _ => by simp at h
 | u :: l, 0, v, v', off, new, h, hn, hl => by
  simp at h; subst h
  have h1 : ((c u).map AV.p).length = e := by simp [hc]
  simp only [List.set_cons_zero, Y0, Nat.zero_mul, Nat.zero_add]
  rw [List.take_append_of_le_length (by omega), List.drop_append_of_le_length (by omega), hn]
  simp
 | u :: l, i + 1, v, v', off, new, h, hn, hl => by
  have h1 : ((c u).map AV.p).length = e := by simp [hc]
  have ih := Qhv hc l i v v' off new (by simpa using h) hn hl
  have e1 : (i + 1) * e + off = ((c u).map AV.p).length + (i * e + off) := by rw [h1, Nat.succ_mul]; omega
  simp only [List.set_cons_succ, Y0]
  rw [e1, Nat.add_assoc, List.take_length_add_append, List.drop_length_add_append, ih]
  simp
theorem Qfi {T : Type} {c : T → List PV} {e : Nat} (hc : ∀ v, (c v).length = e) {l : List T} {i : Int} {v : T} (hv : idx l i = some v) (v' : T) {off j : Nat} {new : List AV} (hj : j = i.toNat * e + off)
  (hnew : (c v').map AV.p = ((c v).map AV.p).take off ++ (new ++ ((c v).map AV.p).drop (off + new.length))) (hlen : off + new.length ≤ e) {k : List AV → Prop} (h : k (Y0 c (l.set i.toNat v'))) : Q45 (Y0 c l) j new k := by
 obtain ⟨_, _, h3⟩ := Q6y hv
 rw [Q27, Jk, hj, ← Qhv hc l i.toNat v v' off new h3 hnew hlen]
 exact h
theorem Qmq {T : Type} {c : T → List PV} {e : Nat} (hc : ∀ v, (c v).length = e) {cs : List PV} {l : List T} (hl : cs = (Qi c l).flatten) {i : Int} {v : T} (hv : idx l i = some v) {off n : Nat} {b : Bool} {k : AV → Prop} (hn : off + n ≤ e) {j : Nat} (hj : j = i.toNat * e + off)
  (h : G0 (EP P Gl) b ((((c v).drop off).take n).map AV.p) k) : Q5d j cs (fun cs => Q7o AV.p cs (fun cs => Q72 (EP P Gl) n cs (fun cs => G0 (EP P Gl) b cs k))) := by
 have h1 := Qrv hc hv hn hj h
 rw [Q78, ← hl, Uq] at h1
 rw [Uq, Wy, List.map_drop]
 exact h1
theorem Q8w {T : Type} {c : T → List PV} (hc : ∀ v, (c v).length = 1) {l : List T} {n : Nat} (hn : n = l.length) (h : Nat.ble 1 n = true) : (Nat.beq 1 1 && (Nat.ble (0 + n) (Y0 c l).length && Nat.ble 1 n)) = true := by
 rw [h, Gt hc, hn]; simp
theorem Qda {T : Type} {c : T → List PV} (hc : ∀ v, (c v).length = 1) {l new : List T} {len : Nat} {k : Nat → List AV → Prop} (h : k (new.take len).length (Y0 c (new.take len ++ l.drop (new.take len).length))) :
  Qb8 len (Y0 c new) (Y0 c l) 0 k := by
 have dr : ∀ (l : List T) n, (Y0 c l).drop n = Y0 c (l.drop n) := by
  intro l
  induction l with
  | nil => intro n; simp [Y0]
  | cons v l ih =>
   intro n
   cases n with
   | zero => rfl
   | succ n =>
    have h1 : ((c v).map AV.p).length = 1 := by simp [hc]
    rw [Y0, List.drop_succ_cons, ← ih n, show n + 1 = ((c v).map AV.p).length + n by omega, ← List.drop_drop, List.drop_left]
 have tk : ∀ (l : List T) n, (Y0 c l).take n = Y0 c (l.take n) := by
  intro l
  induction l with
  | nil => intro n; simp [Y0]
  | cons v l ih =>
   intro n
   cases n with
   | zero => rfl
   | succ n =>
    have h1 : ((c v).map AV.p).length = 1 := by simp [hc]
    rw [Y0, List.take_succ_cons, Y0, ← ih n, show n + 1 = ((c v).map AV.p).length + n by omega, List.take_length_add_append]
 unfold Qb8
 rw [Q4q, Qai, Q27, Jk, tk, Gt hc, Nat.mul_one, Nat.zero_add, dr, List.take_zero, List.nil_append, ← Qcp]
 exact h
theorem Qrt {len off : Nat} {new cs : List AV} {k : Nat → List AV → Prop} (h : Qgz len new fun new => Quc new fun n => Q45 cs off new fun cs => k n cs) : Qb8 len new cs off k := h
theorem Qx9 {s : List UInt8} : s = [] ++ s.drop 0 := rfl
theorem Qr3 {s l : List UInt8} {n : Nat} (h : s = l ++ s.drop n) {y : UInt8} (hy : idx s (n : Int) = some y) : s = (l ++ [y]) ++ s.drop (n + 1) := by
 have h1 : s[n]? = some y := hy
 have : s.drop n = y :: s.drop (n + 1) := by
  obtain ⟨h2, h3⟩ := List.getElem?_eq_some_iff.1 h1
  rw [List.drop_eq_getElem_cons h2, h3]
 rw [List.append_assoc]
 rw [this] at h
 exact h
theorem Qul {s l r : List UInt8} (e : s = l ++ r) {k : List AV → Prop} (h : k ((l.map fun x => AV.p (.int .u8 (x.toNat : Int))) ++ r.map fun x => AV.p (.int .u8 (x.toNat : Int)))) :
  @List.rec UInt8 (fun _ => Up hi9 ((List AV → Prop) → Prop)) (fun k => k []) (fun v _ ih k => ih fun r => k (AV.p (.int .u8 (v.toNat : Int)) :: r)) s k := by
 rw [← List.map_append, ← e] at h
 show Q7o (fun x : UInt8 => AV.p (.int .u8 (x.toNat : Int))) s k
 rw [Wy]; exact h
end
end
end Go.Av
