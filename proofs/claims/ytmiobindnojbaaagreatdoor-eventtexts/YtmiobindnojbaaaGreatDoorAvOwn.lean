/- An abstract machine for the modelled code, and what its runs say of real calls. Part of a proof of a given statement: for every input the law returns true and the arguments read as before; no condition beyond the given row. -/
import Derived.Test.YtmiobindnojbaaaGreatDoorAvLift
import Derived.Test.YtmiobindnojbaaaGreatDoorAvJoin
namespace Go.Av
noncomputable section
section
variable {P : Program} {Gl : Nat → Option (List PV)}
def Ua {T : Type} (c : T → List PV) : List T → List AV
 | [] => []
 | v :: l => (c v).map AV.p ++ Ua c l
theorem Qgf {T : Type} (c : T → List PV) (l m : List T) : Ua c (l ++ m) = Ua c l ++ Ua c m := by
 induction l with
 | nil => rfl
 | cons v l ih => simp [Ua, ih]
theorem Q68 {T : Type} {c : T → List PV} {e : Nat} (hc : ∀ v, (c v).length = e) (l : List T) : (Ua c l).length = l.length * e := by
 induction l with
 | nil => simp [Ua]
 | cons v l ih => simp [Ua, ih, hc, Nat.succ_mul]; omega
theorem Q9b {T : Type} (c : T → List PV) (l : List T) : Ua c l = (Q7 c l).flatten.map AV.p := by
 induction l with
 | nil => rfl
 | cons v l ih => simp [Ua, ih, Q7]
theorem Q0j {T : Type} {c : T → List PV} {l : List T} {new : List AV} (vs : List T) {k : List AV → Prop} (e : new = Ua c vs) (h : k (Ua c (l ++ vs))) : Q7z (Ua c l) new k := by
 rw [Vf, e, ← Qgf]; exact h
theorem Jg {T : Type} {c : T → List PV} {e : Nat} (hc : ∀ v, (c v).length = e) {l : List T} {g : Bool} {n : Nat} (hn : n = l.length) (h : g = true) : (Nat.beq e e && (Nat.beq (0 + n * e) (Ua c l).length && g)) = true := by
 rw [h, Q68 hc, hn]; simp
theorem Y5 {T : Type} (c : T → List PV) (l : List T) (n : Nat) : G8 n (.cells (Ua c l)) = true := by
 have : ∀ ps : List PV, refsLt.refsLts n (ps.map AV.p) = true := by
  intro ps
  induction ps with
  | nil => rfl
  | cons p ps ih => simp [refsLt.refsLts, refsLt, ih]
 rw [Q9b]; exact this _
theorem Qic {T : Type} (ρ : Nat → Nat) (c : T → List PV) (l : List T) : Qjb ρ (.cells (Ua c l)) = .cells (Ua c l) := by
 have : ∀ ps : List PV, Q55 ρ (ps.map AV.p) = ps.map AV.p := by
  intro ps
  induction ps with
  | nil => rfl
  | cons p ps ih => simp [Q55, Q56, ih]
 simp only [Qjb, Q9b, this]
theorem hO {T : Type} {c : T → List PV} {l : List T} {ρ : Nat → Nat} {K : Nat → Prop} {H : List AObj} {i : Nat} {r : List AObj} (e : H[ρ i]? = some (.cells (Ua c l))) (h : Q65 ρ K H (i + 1) r) : Q65 ρ K H i (.cells (Ua c l) :: r) :=
 hE (by rw [Qic]; exact e) h
theorem roN {f : AObj → Bool} : ([] : List AObj).all f = true := rfl
theorem roE {f : AObj → Bool} {o : AObj} {r : List AObj} (h : f o = true) (t : r.all f = true) : (o :: r).all f = true := by simp [h, t]
def rho (l : List Nat) (i : Nat) : Nat := l.getD i i
theorem Gz {α : Type} {i : Int} : idx ([] : List α) i = none := by cases i <;> rfl
theorem Q1g {α : Type} {l : List α} {i : Int} {v : α} (h : idx l i = some v) : 0 ≤ i ∧ i < l.length ∧ l[i.toNat]? = some v := by
 cases i with
 | ofNat n =>
  simp only [idx] at h
  have := (List.getElem?_eq_some_iff.1 h).1
  exact ⟨Int.natCast_nonneg n, by show (n : Int) < l.length; omega, h⟩
 | negSucc n => cases h
theorem Qdv {α : Type} {l : List α} {i : Int} {v : α} {n : Nat} (h : idx l i = some v) (hn : n = l.length) : (decide (0 ≤ i) && decide (i < (n : Int))) = true := by
 obtain ⟨h1, h2, _⟩ := Q1g h
 simp [h1, hn, h2]
theorem Q8f {T : Type} {c : T → List PV} {e : Nat} (hc : ∀ v, (c v).length = e) : ∀ (l : List T) (i : Nat) (v : T), l[i]? = some v → ∃ r, (Ua c l).drop (i * e) = (c v).map AV.p ++ r
 | [], i, v, h => by simp at h
 | u :: l, 0, v, h => by simp at h; subst h; exact ⟨Ua c l, by simp [Ua]⟩
 | u :: l, i + 1, v, h => by
  obtain ⟨r, hr⟩ := Q8f hc l i v (by simpa using h)
  refine ⟨r, ?_⟩
  have : (i + 1) * e = ((c u).map AV.p).length + i * e := by simp [hc, Nat.succ_mul]; omega
  rw [Ua, this, ← List.drop_drop, List.drop_left]; exact hr
theorem Gx {T : Type} {c : T → List PV} {e : Nat} (hc : ∀ v, (c v).length = e) {l : List T} {i : Int} {v : T} (hv : idx l i = some v) {off n : Nat} {b : Bool} {k : AV → Prop} (hn : off + n ≤ e) {j : Nat} (hj : j = i.toNat * e + off)
  (h : W7 (EP P Gl) b ((((c v).drop off).take n).map AV.p) k) : Q2i j (Ua c l) (fun cs => Q3c (EP P Gl) n cs (fun cs => W7 (EP P Gl) b cs k)) := by
 subst hj
 obtain ⟨_, _, h3⟩ := Q1g hv
 obtain ⟨r, hr⟩ := Q8f hc l _ v h3
 have e1 : (Ua c l).drop (i.toNat * e + off) = ((c v).map AV.p).drop off ++ r := by
  rw [← List.drop_drop, hr, List.drop_append_of_le_length (by simp [hc]; omega)]
 rw [Wr, e1, Ud]
 have e2 : (((c v).map AV.p).drop off ++ r).take n = (((c v).drop off).take n).map AV.p := by
  rw [List.take_append_of_le_length (by simp [hc]; omega), ← List.map_drop, ← List.map_take]
 unfold U3
 rw [e2, if_pos (by simp [hc]; omega)]
 exact h
theorem Qbh {l : List Int} {n : Nat} (hn : n = l.length) {k : List UInt8 → Prop} (h : k (l.map fun n => UInt8.ofNat n.toNat)) : Q3c (EP P Gl) n (Ua (cI .u8) l) (fun cs => Q05 (EP P Gl) k cs) := by
 subst hn
 have h1 : (Ua (cI .u8) l).length = l.length := by rw [Q68 (e := 1) (fun _ => rfl)]; omega
 rw [Ud]
 unfold U3
 rw [List.take_of_length_le (by omega), if_pos h1]
 show Q05 (EP P Gl) k (Ua (cI .u8) l)
 rw [Q3s]
 have : ∀ l : List Int, Qav (Ua (cI .u8) l) = some (l.map fun n => UInt8.ofNat n.toNat) := by
  intro l
  induction l with
  | nil => simp [Ua, Qav]
  | cons b l ih => simp [Ua, Qav, ih]
 rw [this]; exact h
theorem Qb1 {b : List UInt8} {k : List AV → Prop} (h : k (Ua (cI .u8) (b.map fun x => (x.toNat : Int)))) :
  @List.rec UInt8 (fun _ => Up hi9 ((List AV → Prop) → Prop)) (fun k => k []) (fun v _ ih k => ih fun r => k (AV.p (.int .u8 (v.toNat : Int)) :: r)) b k := by
 have e : ∀ b : List UInt8, Ua (cI .u8) (b.map fun x => (x.toNat : Int)) = b.map fun x => AV.p (.int .u8 (x.toNat : Int)) := by
  intro b
  induction b with
  | nil => rfl
  | cons x b ih => simp [Ua, cI]; simpa [cI] using ih
 rw [e] at h
 have := Yr (α := Prop) (fun x : UInt8 => AV.p (.int .u8 (x.toNat : Int))) b k
 show Q24 (fun x : UInt8 => AV.p (.int .u8 (x.toNat : Int))) b k
 rw [this]; exact h
theorem Qlh {T : Type} {c : T → List PV} {n : Nat} {zero : List PV} (z : T) (hz : c z = zero) {k : List AV → Prop} (h : k (Ua c (List.replicate n z))) :
  Q24 AV.p (List.replicate n zero).flatten k := by
 rw [Yr]
 have e : ∀ n, Ua c (List.replicate n z) = (List.replicate n zero).flatten.map AV.p := by
  intro n
  induction n with
  | zero => rfl
  | succ n ih => simp [List.replicate_succ, Ua, ih, hz]
 rw [← e]; exact h
theorem Q44 {T : Type} {c : T → List PV} {e : Nat} (hc : ∀ v, (c v).length = e) {l : List T} {i : Int} {v : T} (hv : idx l i = some v) {off n j m : Nat} (hj : j = i.toNat * e + off) (hm : m = n) (hn : off + n ≤ e) :
  (Nat.beq m n && Nat.ble (j + n) (Ua c l).length) = true := by
 obtain ⟨_, h2, _⟩ := Q1g hv
 have h3 : i.toNat + 1 ≤ l.length := by omega
 have := Nat.mul_le_mul_right e h3
 rw [Q68 hc, hm, hj]
 simp only [Nat.beq_refl, Bool.true_and, Nat.ble_eq]
 rw [Nat.succ_mul] at this
 omega
theorem Qa9 {T : Type} {c : T → List PV} {e : Nat} (hc : ∀ v, (c v).length = e) : ∀ (l : List T) (i : Nat) (v v' : T) (off : Nat) (new : List AV), l[i]? = some v →
  (c v').map AV.p = ((c v).map AV.p).take off ++ (new ++ ((c v).map AV.p).drop (off + new.length)) → off + new.length ≤ e →
  Ua c (l.set i v') = (Ua c l).take (i * e + off) ++ (new ++ (Ua c l).drop (i * e + off + new.length))
 | [], i, v, v', off, new, h, _, _ => by simp at h
 | u :: l, 0, v, v', off, new, h, hn, hl => by
  simp at h; subst h
  have h1 : ((c u).map AV.p).length = e := by simp [hc]
  simp only [List.set_cons_zero, Ua, Nat.zero_mul, Nat.zero_add]
  rw [List.take_append_of_le_length (by omega), List.drop_append_of_le_length (by omega), hn]
  simp
 | u :: l, i + 1, v, v', off, new, h, hn, hl => by
  have h1 : ((c u).map AV.p).length = e := by simp [hc]
  have ih := Qa9 hc l i v v' off new (by simpa using h) hn hl
  have e1 : (i + 1) * e + off = ((c u).map AV.p).length + (i * e + off) := by rw [h1, Nat.succ_mul]; omega
  simp only [List.set_cons_succ, Ua]
  rw [e1, Nat.add_assoc, List.take_length_add_append, List.drop_length_add_append, ih]
  simp
theorem Q4r {T : Type} {c : T → List PV} {e : Nat} (hc : ∀ v, (c v).length = e) {l : List T} {i : Int} {v : T} (hv : idx l i = some v) (v' : T) {off j : Nat} {new : List AV} (hj : j = i.toNat * e + off)
  (hnew : (c v').map AV.p = ((c v).map AV.p).take off ++ (new ++ ((c v).map AV.p).drop (off + new.length))) (hlen : off + new.length ≤ e) {k : List AV → Prop} (h : k (Ua c (l.set i.toNat v'))) : Q18 (Ua c l) j new k := by
 obtain ⟨_, _, h3⟩ := Q1g hv
 rw [Q08, Wv, hj, ← Qa9 hc l i.toNat v v' off new h3 hnew hlen]
 exact h
theorem Qij {T : Type} {c : T → List PV} {e : Nat} (hc : ∀ v, (c v).length = e) {cs : List PV} {l : List T} (hl : cs = (Q7 c l).flatten) {i : Int} {v : T} (hv : idx l i = some v) {off n : Nat} {b : Bool} {k : AV → Prop} (hn : off + n ≤ e) {j : Nat} (hj : j = i.toNat * e + off)
  (h : W7 (EP P Gl) b ((((c v).drop off).take n).map AV.p) k) : Q2i j cs (fun cs => Q24 AV.p cs (fun cs => Q3c (EP P Gl) n cs (fun cs => W7 (EP P Gl) b cs k))) := by
 have h1 := Gx hc hv hn hj h
 rw [Q9b, ← hl, Wr] at h1
 rw [Wr, Yr, List.map_drop]
 exact h1
end
end
end Go.Av
