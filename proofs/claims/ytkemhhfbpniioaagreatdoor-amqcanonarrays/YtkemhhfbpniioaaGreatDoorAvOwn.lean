/- An abstract machine for the modelled code, and what its runs say of real calls. Part of a proof of a given statement: for every input the law returns true and the arguments read as before; no condition beyond the given row. -/
import Derived.Test.YtkemhhfbpniioaaGreatDoorAvLift
import Derived.Test.YtkemhhfbpniioaaGreatDoorAvJoin
namespace Go.Av
noncomputable section
section
variable {P : Program} {Gl : Nat → Option (List PV)}
def Xq {T : Type} (c : T → List PV) : List T → List AV
 | [] => []
 | v :: l => (c v).map AV.p ++ Xq c l
theorem Qmu {T : Type} (c : T → List PV) (l m : List T) : Xq c (l ++ m) = Xq c l ++ Xq c m := by
 induction l with
 | nil => rfl
 | cons v l ih => simp [Xq, ih]
theorem Q3j {T : Type} {c : T → List PV} {e : Nat} (hc : ∀ v, (c v).length = e) (l : List T) : (Xq c l).length = l.length * e := by
 induction l with
 | nil => simp [Xq]
 | cons v l ih => simp [Xq, ih, hc, Nat.succ_mul]; omega
theorem Q8v {T : Type} (c : T → List PV) (l : List T) : Xq c l = (U2 c l).flatten.map AV.p := by
 induction l with
 | nil => rfl
 | cons v l ih => simp [Xq, ih, U2]
theorem Q2n {T : Type} {c : T → List PV} {l : List T} {new : List AV} (vs : List T) {k : List AV → Prop} (e : new = Xq c vs) (h : k (Xq c (l ++ vs))) : Qe9 (Xq c l) new k := by
 rw [Jb, e, ← Qmu]; exact h
theorem Gx {T : Type} {c : T → List PV} {e : Nat} (hc : ∀ v, (c v).length = e) {l : List T} {g : Bool} {n : Nat} (hn : n = l.length) (h : g = true) : (Nat.beq e e && (Nat.beq (0 + n * e) (Xq c l).length && g)) = true := by
 rw [h, Q3j hc, hn]; simp
theorem Qb {T : Type} (c : T → List PV) (l : List T) (n : Nat) : G3 n (.cells (Xq c l)) = true := by
 have : ∀ ps : List PV, refsLt.refsLts n (ps.map AV.p) = true := by
  intro ps
  induction ps with
  | nil => rfl
  | cons p ps ih => simp [refsLt.refsLts, refsLt, ih]
 rw [Q8v]; exact this _
theorem Qjq {T : Type} (ρ : Nat → Nat) (c : T → List PV) (l : List T) : Qmw ρ (.cells (Xq c l)) = .cells (Xq c l) := by
 have : ∀ ps : List PV, Q97 ρ (ps.map AV.p) = ps.map AV.p := by
  intro ps
  induction ps with
  | nil => rfl
  | cons p ps ih => simp [Q97, Q2u, ih]
 simp only [Qmw, Q8v, this]
theorem hO {T : Type} {c : T → List PV} {l : List T} {ρ : Nat → Nat} {K : Nat → Prop} {H : List AObj} {i : Nat} {r : List AObj} (e : H[ρ i]? = some (.cells (Xq c l))) (h : Q9e ρ K H (i + 1) r) : Q9e ρ K H i (.cells (Xq c l) :: r) :=
 hE (by rw [Qjq]; exact e) h
theorem roN {f : AObj → Bool} : ([] : List AObj).all f = true := rfl
theorem roE {f : AObj → Bool} {o : AObj} {r : List AObj} (h : f o = true) (t : r.all f = true) : (o :: r).all f = true := by simp [h, t]
def rho (l : List Nat) (i : Nat) : Nat := l.getD i i
theorem frz_own {T : Type} {c : T → List PV} {e : Nat} (hc : ∀ v, (c v).length = e) {K : Nat → Prop} {H : List AObj} {a n : Nat} {l : List T} (ho : H[a]? = some (.cells (Xq c l))) (hk : K a) (hn : n = l.length) :
  Frz K H (.slice e a 0 n) (.slice e (U2 c l)) := by
 subst hn
 have hl : (U2 c l).flatten.length = l.length * e := by
  have := Q3j hc l
  rw [Q8v, List.length_map] at this; exact this
 have hcs : ((Xq c l).drop 0).take (l.length * e) = Xq c l := by
  rw [List.drop_zero]; exact List.take_of_length_le (by rw [Q3j hc]; exact Nat.le_refl _)
 refine .slice e a 0 l.length (Xq c l) (U2 c l) hk ho (Vg c l) (fun r hr => ?_) ?_ (fun i v x hv hx => ?_)
 ·simp only [U2, List.mem_map] at hr
  obtain ⟨y, _, rfl⟩ := hr
  exact hc y
 ·rw [hcs, Q3j hc, hl]
 ·rw [hcs, Q8v, List.getElem?_map, hx] at hv
  cases hv
  exact .p _
theorem Qpd {α : Type} {i : Int} : idx ([] : List α) i = none := by cases i <;> rfl
theorem Q4t {α : Type} {l : List α} {i : Int} {v : α} (h : idx l i = some v) : 0 ≤ i ∧ i < l.length ∧ l[i.toNat]? = some v := by
 cases i with
 | ofNat n =>
  simp only [idx] at h
  have := (List.getElem?_eq_some_iff.1 h).1
  exact ⟨Int.natCast_nonneg n, by show (n : Int) < l.length; omega, h⟩
 | negSucc n => cases h
theorem Qba {α : Type} {l : List α} {i : Int} {v : α} {n : Nat} (h : idx l i = some v) (hn : n = l.length) : (decide (0 ≤ i) && decide (i < (n : Int))) = true := by
 obtain ⟨h1, h2, _⟩ := Q4t h
 simp [h1, hn, h2]
theorem Qd5 {T : Type} {c : T → List PV} {e : Nat} (hc : ∀ v, (c v).length = e) : ∀ (l : List T) (i : Nat) (v : T), l[i]? = some v → ∃ r, (Xq c l).drop (i * e) = (c v).map AV.p ++ r
 | [], i, v, h => by simp at h
 | u :: l, 0, v, h => by simp at h; subst h; exact ⟨Xq c l, by simp [Xq]⟩
 | u :: l, i + 1, v, h => by
  obtain ⟨r, hr⟩ := Qd5 hc l i v (by simpa using h)
  refine ⟨r, ?_⟩
  have : (i + 1) * e = ((c u).map AV.p).length + i * e := by simp [hc, Nat.succ_mul]; omega
  rw [Xq, this, ← List.drop_drop, List.drop_left]; exact hr
theorem Qp4 {T : Type} {c : T → List PV} {e : Nat} (hc : ∀ v, (c v).length = e) {l : List T} {i : Int} {v : T} (hv : idx l i = some v) {off n : Nat} {b : Bool} {k : AV → Prop} (hn : off + n ≤ e) {j : Nat} (hj : j = i.toNat * e + off)
  (h : J9 (EP P Gl) b ((((c v).drop off).take n).map AV.p) k) : Q5m j (Xq c l) (fun cs => Q6v (EP P Gl) n cs (fun cs => J9 (EP P Gl) b cs k)) := by
 subst hj
 obtain ⟨_, _, h3⟩ := Q4t hv
 obtain ⟨r, hr⟩ := Qd5 hc l _ v h3
 have e1 : (Xq c l).drop (i.toNat * e + off) = ((c v).map AV.p).drop off ++ r := by
  rw [← List.drop_drop, hr, List.drop_append_of_le_length (by simp [hc]; omega)]
 rw [Um, e1, Gb]
 have e2 : (((c v).map AV.p).drop off ++ r).take n = (((c v).drop off).take n).map AV.p := by
  rw [List.take_append_of_le_length (by simp [hc]; omega), ← List.map_drop, ← List.map_take]
 unfold G0
 rw [e2, if_pos (by simp [hc]; omega)]
 exact h
theorem Qoj {l : List Int} {n : Nat} (hn : n = l.length) {k : List UInt8 → Prop} (h : k (l.map fun n => UInt8.ofNat n.toNat)) : Q6v (EP P Gl) n (Xq (cI .u8) l) (fun cs => Q3g (EP P Gl) k cs) := by
 subst hn
 have h1 : (Xq (cI .u8) l).length = l.length := by rw [Q3j (e := 1) (fun _ => rfl)]; omega
 rw [Gb]
 unfold G0
 rw [List.take_of_length_le (by omega), if_pos h1]
 show Q3g (EP P Gl) k (Xq (cI .u8) l)
 rw [Q87]
 have : ∀ l : List Int, Qgh (Xq (cI .u8) l) = some (l.map fun n => UInt8.ofNat n.toNat) := by
  intro l
  induction l with
  | nil => simp [Xq, Qgh]
  | cons b l ih => simp [Xq, Qgh, ih]
 rw [this]; exact h
theorem Qrx {b : List UInt8} {k : List AV → Prop} (h : k (Xq (cI .u8) (b.map fun x => (x.toNat : Int)))) :
  @List.rec UInt8 (fun _ => Up hi9 ((List AV → Prop) → Prop)) (fun k => k []) (fun v _ ih k => ih fun r => k (AV.p (.int .u8 (v.toNat : Int)) :: r)) b k := by
 have e : ∀ b : List UInt8, Xq (cI .u8) (b.map fun x => (x.toNat : Int)) = b.map fun x => AV.p (.int .u8 (x.toNat : Int)) := by
  intro b
  induction b with
  | nil => rfl
  | cons x b ih => simp [Xq, cI]; simpa [cI] using ih
 rw [e] at h
 have := Ww (α := Prop) (fun x : UInt8 => AV.p (.int .u8 (x.toNat : Int))) b k
 show Q6d (fun x : UInt8 => AV.p (.int .u8 (x.toNat : Int))) b k
 rw [this]; exact h
theorem Qtc {T : Type} {c : T → List PV} {n : Nat} {zero : List PV} (z : T) (hz : c z = zero) {k : List AV → Prop} (h : k (Xq c (List.replicate n z))) :
  Q6d AV.p (List.replicate n zero).flatten k := by
 rw [Ww]
 have e : ∀ n, Xq c (List.replicate n z) = (List.replicate n zero).flatten.map AV.p := by
  intro n
  induction n with
  | zero => rfl
  | succ n ih => simp [List.replicate_succ, Xq, ih, hz]
 rw [← e]; exact h
theorem Qde {T : Type} {c : T → List PV} {e : Nat} (hc : ∀ v, (c v).length = e) {l : List T} {i : Int} {v : T} (hv : idx l i = some v) {off n j m : Nat} (hj : j = i.toNat * e + off) (hm : m = n) (hn : off + n ≤ e) :
  (Nat.beq m n && Nat.ble (j + n) (Xq c l).length) = true := by
 obtain ⟨_, h2, _⟩ := Q4t hv
 have h3 : i.toNat + 1 ≤ l.length := by omega
 have := Nat.mul_le_mul_right e h3
 rw [Q3j hc, hm, hj]
 simp only [Nat.beq_refl, Bool.true_and, Nat.ble_eq]
 rw [Nat.succ_mul] at this
 omega
theorem Qgx {T : Type} {c : T → List PV} {e : Nat} (hc : ∀ v, (c v).length = e) : ∀ (l : List T) (i : Nat) (v v' : T) (off : Nat) (new : List AV), l[i]? = some v →
  (c v').map AV.p = ((c v).map AV.p).take off ++ (new ++ ((c v).map AV.p).drop (off + new.length)) → off + new.length ≤ e →
  Xq c (l.set i v') = (Xq c l).take (i * e + off) ++ (new ++ (Xq c l).drop (i * e + off + new.length))
 | [], i, v, v', off, new, h, _, _ => by simp at h
 | u :: l, 0, v, v', off, new, h, hn, hl => by
  simp at h; subst h
  have h1 : ((c u).map AV.p).length = e := by simp [hc]
  simp only [List.set_cons_zero, Xq, Nat.zero_mul, Nat.zero_add]
  rw [List.take_append_of_le_length (by omega), List.drop_append_of_le_length (by omega), hn]
  simp
 | u :: l, i + 1, v, v', off, new, h, hn, hl => by
  have h1 : ((c u).map AV.p).length = e := by simp [hc]
  have ih := Qgx hc l i v v' off new (by simpa using h) hn hl
  have e1 : (i + 1) * e + off = ((c u).map AV.p).length + (i * e + off) := by rw [h1, Nat.succ_mul]; omega
  simp only [List.set_cons_succ, Xq]
  rw [e1, Nat.add_assoc, List.take_length_add_append, List.drop_length_add_append, ih]
  simp
theorem Qd4 {T : Type} {c : T → List PV} {e : Nat} (hc : ∀ v, (c v).length = e) {l : List T} {i : Int} {v : T} (hv : idx l i = some v) (v' : T) {off j : Nat} {new : List AV} (hj : j = i.toNat * e + off)
  (hnew : (c v').map AV.p = ((c v).map AV.p).take off ++ (new ++ ((c v).map AV.p).drop (off + new.length))) (hlen : off + new.length ≤ e) {k : List AV → Prop} (h : k (Xq c (l.set i.toNat v'))) : Q44 (Xq c l) j new k := by
 obtain ⟨_, _, h3⟩ := Q4t hv
 rw [Q3b, Uq, hj, ← Qgx hc l i.toNat v v' off new h3 hnew hlen]
 exact h
theorem Qj7 {T : Type} {c : T → List PV} {e : Nat} (hc : ∀ v, (c v).length = e) {cs : List PV} {l : List T} (hl : cs = (U2 c l).flatten) {i : Int} {v : T} (hv : idx l i = some v) {off n : Nat} {b : Bool} {k : AV → Prop} (hn : off + n ≤ e) {j : Nat} (hj : j = i.toNat * e + off)
  (h : J9 (EP P Gl) b ((((c v).drop off).take n).map AV.p) k) : Q5m j cs (fun cs => Q6d AV.p cs (fun cs => Q6v (EP P Gl) n cs (fun cs => J9 (EP P Gl) b cs k))) := by
 have h1 := Qp4 hc hv hn hj h
 rw [Q8v, ← hl, Um] at h1
 rw [Um, Ww, List.map_drop]
 exact h1
end
end
end Go.Av
