/- An abstract machine for the modelled code, and what its runs say of real calls. Part of a proof of a given statement: for every input the law returns true and the arguments read as before; no condition beyond the given row. -/
import Derived.Test.YtmofajpflckpmaaGreatDoorAvLift
import Derived.Test.YtmofajpflckpmaaGreatDoorAvJoin
namespace Go.Av
noncomputable section
section
variable {P : Program} {Gl : Nat → Option (List PV)}
def Ve {T : Type} (c : T → List PV) : List T → List AV
 | [] => []
 | v :: l => (c v).map AV.p ++ Ve c l
theorem Qdr {T : Type} (c : T → List PV) (l m : List T) : Ve c (l ++ m) = Ve c l ++ Ve c m := by
 induction l with
 | nil => rfl
 | cons v l ih => simp [Ve, ih]
theorem Q6b {T : Type} {c : T → List PV} {e : Nat} (hc : ∀ v, (c v).length = e) (l : List T) : (Ve c l).length = l.length * e := by
 induction l with
 | nil => simp [Ve]
 | cons v l ih => simp [Ve, ih, hc, Nat.succ_mul]; omega
theorem Qct {T : Type} (c : T → List PV) (l : List T) : Ve c l = (Qe c l).flatten.map AV.p := by
 induction l with
 | nil => rfl
 | cons v l ih => simp [Ve, ih, Qe]
theorem Gp {T : Type} {c : T → List PV} {l : List T} {new : List AV} (vs : List T) {k : List AV → Prop} (e : new = Ve c vs) (h : k (Ve c (l ++ vs))) : Q84 (Ve c l) new k := by
 rw [Wc, e, ← Qdr]; exact h
theorem Uk {T : Type} {c : T → List PV} {e : Nat} (hc : ∀ v, (c v).length = e) {l : List T} {g : Bool} {n : Nat} (hn : n = l.length) (h : g = true) : (Nat.beq e e && (Nat.beq (0 + n * e) (Ve c l).length && g)) = true := by
 rw [h, Q6b hc, hn]; simp
theorem Zr {T : Type} (c : T → List PV) (l : List T) (n : Nat) : J7 n (.cells (Ve c l)) = true := by
 have : ∀ ps : List PV, refsLt.refsLts n (ps.map AV.p) = true := by
  intro ps
  induction ps with
  | nil => rfl
  | cons p ps ih => simp [refsLt.refsLts, refsLt, ih]
 rw [Qct]; exact this _
theorem Qgr {T : Type} (ρ : Nat → Nat) (c : T → List PV) (l : List T) : Qhb ρ (.cells (Ve c l)) = .cells (Ve c l) := by
 have : ∀ ps : List PV, Q4a ρ (ps.map AV.p) = ps.map AV.p := by
  intro ps
  induction ps with
  | nil => rfl
  | cons p ps ih => simp [Q4a, Q4g, ih]
 simp only [Qhb, Qct, this]
theorem hO {T : Type} {c : T → List PV} {l : List T} {ρ : Nat → Nat} {K : Nat → Prop} {H : List AObj} {i : Nat} {r : List AObj} (e : H[ρ i]? = some (.cells (Ve c l))) (h : Q55 ρ K H (i + 1) r) : Q55 ρ K H i (.cells (Ve c l) :: r) :=
 hE (by rw [Qgr]; exact e) h
theorem roN {f : AObj → Bool} : ([] : List AObj).all f = true := rfl
theorem roE {f : AObj → Bool} {o : AObj} {r : List AObj} (h : f o = true) (t : r.all f = true) : (o :: r).all f = true := by simp [h, t]
def rho (l : List Nat) (i : Nat) : Nat := l.getD i i
theorem Q5j {α : Type} {i : Int} : idx ([] : List α) i = none := by cases i <;> rfl
theorem Q14 {α : Type} {l : List α} {i : Int} {v : α} (h : idx l i = some v) : 0 ≤ i ∧ i < l.length ∧ l[i.toNat]? = some v := by
 cases i with
 | ofNat n =>
  simp only [idx] at h
  have := (List.getElem?_eq_some_iff.1 h).1
  exact ⟨Int.natCast_nonneg n, by show (n : Int) < l.length; omega, h⟩
 | negSucc n => cases h
theorem Qh0 {α : Type} {l : List α} {i : Int} {v : α} {n : Nat} (h : idx l i = some v) (hn : n = l.length) : (decide (0 ≤ i) && decide (i < (n : Int))) = true := by
 obtain ⟨h1, h2, _⟩ := Q14 h
 simp [h1, hn, h2]
theorem Q6o {T : Type} {c : T → List PV} {e : Nat} (hc : ∀ v, (c v).length = e) : ∀ (l : List T) (i : Nat) (v : T), l[i]? = some v → ∃ r, (Ve c l).drop (i * e) = (c v).map AV.p ++ r
 | [], i, v, h => by simp at h
 | u :: l, 0, v, h => by simp at h; subst h; exact ⟨Ve c l, by simp [Ve]⟩
 | u :: l, i + 1, v, h => by
  obtain ⟨r, hr⟩ := Q6o hc l i v (by simpa using h)
  refine ⟨r, ?_⟩
  have : (i + 1) * e = ((c u).map AV.p).length + i * e := by simp [hc, Nat.succ_mul]; omega
  rw [Ve, this, ← List.drop_drop, List.drop_left]; exact hr
theorem Q0f {T : Type} {c : T → List PV} {e : Nat} (hc : ∀ v, (c v).length = e) {l : List T} {i : Int} {v : T} (hv : idx l i = some v) {off n : Nat} {b : Bool} {k : AV → Prop} (hn : off + n ≤ e) {j : Nat} (hj : j = i.toNat * e + off)
  (h : Xx (EP P Gl) b ((((c v).drop off).take n).map AV.p) k) : Q2f j (Ve c l) (fun cs => Q3s (EP P Gl) n cs (fun cs => Xx (EP P Gl) b cs k)) := by
 subst hj
 obtain ⟨_, _, h3⟩ := Q14 hv
 obtain ⟨r, hr⟩ := Q6o hc l _ v h3
 have e1 : (Ve c l).drop (i.toNat * e + off) = ((c v).map AV.p).drop off ++ r := by
  rw [← List.drop_drop, hr, List.drop_append_of_le_length (by simp [hc]; omega)]
 rw [V0, e1, Vh]
 have e2 : (((c v).map AV.p).drop off ++ r).take n = (((c v).drop off).take n).map AV.p := by
  rw [List.take_append_of_le_length (by simp [hc]; omega), ← List.map_drop, ← List.map_take]
 unfold V7
 rw [e2, if_pos (by simp [hc]; omega)]
 exact h
theorem Q99 {l : List Int} {n : Nat} (hn : n = l.length) {k : List UInt8 → Prop} (h : k (l.map fun n => UInt8.ofNat n.toNat)) : Q3s (EP P Gl) n (Ve (cI .u8) l) (fun cs => Gj (EP P Gl) k cs) := by
 subst hn
 have h1 : (Ve (cI .u8) l).length = l.length := by rw [Q6b (e := 1) (fun _ => rfl)]; omega
 rw [Vh]
 unfold V7
 rw [List.take_of_length_le (by omega), if_pos h1]
 show Gj (EP P Gl) k (Ve (cI .u8) l)
 rw [Q3k]
 have : ∀ l : List Int, Q9s (Ve (cI .u8) l) = some (l.map fun n => UInt8.ofNat n.toNat) := by
  intro l
  induction l with
  | nil => simp [Ve, Q9s]
  | cons b l ih => simp [Ve, Q9s, ih]
 rw [this]; exact h
theorem Qae {b : List UInt8} {k : List AV → Prop} (h : k (Ve (cI .u8) (b.map fun x => (x.toNat : Int)))) :
  @List.rec UInt8 (fun _ => Up hi9 ((List AV → Prop) → Prop)) (fun k => k []) (fun v _ ih k => ih fun r => k (AV.p (.int .u8 (v.toNat : Int)) :: r)) b k := by
 have e : ∀ b : List UInt8, Ve (cI .u8) (b.map fun x => (x.toNat : Int)) = b.map fun x => AV.p (.int .u8 (x.toNat : Int)) := by
  intro b
  induction b with
  | nil => rfl
  | cons x b ih => simp [Ve, cI]; simpa [cI] using ih
 rw [e] at h
 have := Ya (α := Prop) (fun x : UInt8 => AV.p (.int .u8 (x.toNat : Int))) b k
 show Q1i (fun x : UInt8 => AV.p (.int .u8 (x.toNat : Int))) b k
 rw [this]; exact h
theorem Qjh {T : Type} {c : T → List PV} {n : Nat} {zero : List PV} (z : T) (hz : c z = zero) {k : List AV → Prop} (h : k (Ve c (List.replicate n z))) :
  Q1i AV.p (List.replicate n zero).flatten k := by
 rw [Ya]
 have e : ∀ n, Ve c (List.replicate n z) = (List.replicate n zero).flatten.map AV.p := by
  intro n
  induction n with
  | zero => rfl
  | succ n ih => simp [List.replicate_succ, Ve, ih, hz]
 rw [← e]; exact h
theorem Q3z {T : Type} {c : T → List PV} {e : Nat} (hc : ∀ v, (c v).length = e) {l : List T} {i : Int} {v : T} (hv : idx l i = some v) {off n j m : Nat} (hj : j = i.toNat * e + off) (hm : m = n) (hn : off + n ≤ e) :
  (Nat.beq m n && Nat.ble (j + n) (Ve c l).length) = true := by
 obtain ⟨_, h2, _⟩ := Q14 hv
 have h3 : i.toNat + 1 ≤ l.length := by omega
 have := Nat.mul_le_mul_right e h3
 rw [Q6b hc, hm, hj]
 simp only [Nat.beq_refl, Bool.true_and, Nat.ble_eq]
 rw [Nat.succ_mul] at this
 omega
theorem Q9w {T : Type} {c : T → List PV} {e : Nat} (hc : ∀ v, (c v).length = e) : ∀ (l : List T) (i : Nat) (v v' : T) (off : Nat) (new : List AV), l[i]? = some v →
  (c v').map AV.p = ((c v).map AV.p).take off ++ (new ++ ((c v).map AV.p).drop (off + new.length)) → off + new.length ≤ e →
  Ve c (l.set i v') = (Ve c l).take (i * e + off) ++ (new ++ (Ve c l).drop (i * e + off + new.length))
 | [], i, v, v', off, new, h, _, _ => by simp at h
 | u :: l, 0, v, v', off, new, h, hn, hl => by
  simp at h; subst h
  have h1 : ((c u).map AV.p).length = e := by simp [hc]
  simp only [List.set_cons_zero, Ve, Nat.zero_mul, Nat.zero_add]
  rw [List.take_append_of_le_length (by omega), List.drop_append_of_le_length (by omega), hn]
  simp
 | u :: l, i + 1, v, v', off, new, h, hn, hl => by
  have h1 : ((c u).map AV.p).length = e := by simp [hc]
  have ih := Q9w hc l i v v' off new (by simpa using h) hn hl
  have e1 : (i + 1) * e + off = ((c u).map AV.p).length + (i * e + off) := by rw [h1, Nat.succ_mul]; omega
  simp only [List.set_cons_succ, Ve]
  rw [e1, Nat.add_assoc, List.take_length_add_append, List.drop_length_add_append, ih]
  simp
theorem Q3t {T : Type} {c : T → List PV} {e : Nat} (hc : ∀ v, (c v).length = e) {l : List T} {i : Int} {v : T} (hv : idx l i = some v) (v' : T) {off j : Nat} {new : List AV} (hj : j = i.toNat * e + off)
  (hnew : (c v').map AV.p = ((c v).map AV.p).take off ++ (new ++ ((c v).map AV.p).drop (off + new.length))) (hlen : off + new.length ≤ e) {k : List AV → Prop} (h : k (Ve c (l.set i.toNat v'))) : Q0d (Ve c l) j new k := by
 obtain ⟨_, _, h3⟩ := Q14 hv
 rw [Gh, W4, hj, ← Q9w hc l i.toNat v v' off new h3 hnew hlen]
 exact h
end
end
end Go.Av
