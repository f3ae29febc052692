/- An abstract machine for the modelled code, and what its runs say of real calls. Part of a proof of a given statement: for every input the law returns true and the arguments read as before; no condition beyond the given row. -/
import Derived.Test.YtkemhhfbpniioaaGreatDoorAvLift
import Derived.Test.YtkemhhfbpniioaaGreatDoorAvJoin
namespace Go.Av
noncomputable section
section
variable {P : Program} {Gl : Nat → Option (List PV)}
def Wt {T : Type} (c : T → List PV) : List T → List AV
 | [] => []
 | v :: l => (c v).map AV.p ++ Wt c l
theorem Qqc {T : Type} (c : T → List PV) (l m : List T) : Wt c (l ++ m) = Wt c l ++ Wt c m := by
 induction l with
 | nil => rfl
 | cons v l ih => simp [Wt, ih]
theorem Q6i {T : Type} {c : T → List PV} {e : Nat} (hc : ∀ v, (c v).length = e) (l : List T) : (Wt c l).length = l.length * e := by
 induction l with
 | nil => simp [Wt]
 | cons v l ih => simp [Wt, ih, hc, Nat.succ_mul]; omega
theorem Qbi {T : Type} (c : T → List PV) (l : List T) : Wt c l = (J3 c l).flatten.map AV.p := by
 induction l with
 | nil => rfl
 | cons v l ih => simp [Wt, ih, J3]
theorem Jm {T : Type} {c : T → List PV} {l : List T} {new : List AV} (vs : List T) {k : List AV → Prop} (e : new = Wt c vs) (h : k (Wt c (l ++ vs))) : Qg9 (Wt c l) new k := by
 rw [Q0q, e, ← Qqc]; exact h
theorem Vr {T : Type} {c : T → List PV} {e : Nat} (hc : ∀ v, (c v).length = e) {l : List T} {g : Bool} {n : Nat} (hn : n = l.length) (h : g = true) : (Nat.beq e e && (Nat.beq (0 + n * e) (Wt c l).length && g)) = true := by
 rw [h, Q6i hc, hn]; simp
theorem Qd {T : Type} (c : T → List PV) (l : List T) (n : Nat) : Q1g n (.cells (Wt c l)) = true := by
 have : ∀ ps : List PV, refsLt.refsLts n (ps.map AV.p) = true := by
  intro ps
  induction ps with
  | nil => rfl
  | cons p ps ih => simp [refsLt.refsLts, refsLt, ih]
 rw [Qbi]; exact this _
theorem Qpb {T : Type} (ρ : Nat → Nat) (c : T → List PV) (l : List T) : Qr6 ρ (.cells (Wt c l)) = .cells (Wt c l) := by
 have : ∀ ps : List PV, Qcy ρ (ps.map AV.p) = ps.map AV.p := by
  intro ps
  induction ps with
  | nil => rfl
  | cons p ps ih => simp [Qcy, Q5r, ih]
 simp only [Qr6, Qbi, this]
theorem hO {T : Type} {c : T → List PV} {l : List T} {ρ : Nat → Nat} {K : Nat → Prop} {H : List AObj} {i : Nat} {r : List AObj} (e : H[ρ i]? = some (.cells (Wt c l))) (h : Qcs ρ K H (i + 1) r) : Qcs ρ K H i (.cells (Wt c l) :: r) :=
 hE (by rw [Qpb]; exact e) h
theorem roN {f : AObj → Bool} : ([] : List AObj).all f = true := rfl
theorem roE {f : AObj → Bool} {o : AObj} {r : List AObj} (h : f o = true) (t : r.all f = true) : (o :: r).all f = true := by simp [h, t]
def rho (l : List Nat) (i : Nat) : Nat := l.getD i i
theorem frz_own {T : Type} {c : T → List PV} {e : Nat} (hc : ∀ v, (c v).length = e) {K : Nat → Prop} {H : List AObj} {a n : Nat} {l : List T} (ho : H[a]? = some (.cells (Wt c l))) (hk : K a) (hn : n = l.length) :
  Frz K H (.slice e a 0 n) (.slice e (J3 c l)) := by
 subst hn
 have hl : (J3 c l).flatten.length = l.length * e := by
  have := Q6i hc l
  rw [Qbi, List.length_map] at this; exact this
 have hcs : ((Wt c l).drop 0).take (l.length * e) = Wt c l := by
  rw [List.drop_zero]; exact List.take_of_length_le (by rw [Q6i hc]; exact Nat.le_refl _)
 refine .slice e a 0 l.length (Wt c l) (J3 c l) hk ho (Jn c l) (fun r hr => ?_) ?_ (fun i v x hv hx => ?_)
 ·simp only [J3, List.mem_map] at hr
  obtain ⟨y, _, rfl⟩ := hr
  exact hc y
 ·rw [hcs, Q6i hc, hl]
 ·rw [hcs, Qbi, List.getElem?_map, hx] at hv
  cases hv
  exact .p _
theorem Qtn {α : Type} {i : Int} : idx ([] : List α) i = none := by cases i <;> rfl
theorem Q8a {α : Type} {l : List α} {i : Int} {v : α} (h : idx l i = some v) : 0 ≤ i ∧ i < l.length ∧ l[i.toNat]? = some v := by
 cases i with
 | ofNat n =>
  simp only [idx] at h
  have := (List.getElem?_eq_some_iff.1 h).1
  exact ⟨Int.natCast_nonneg n, by show (n : Int) < l.length; omega, h⟩
 | negSucc n => cases h
theorem Qf5 {α : Type} {l : List α} {i : Int} {v : α} {n : Nat} (h : idx l i = some v) (hn : n = l.length) : (decide (0 ≤ i) && decide (i < (n : Int))) = true := by
 obtain ⟨h1, h2, _⟩ := Q8a h
 simp [h1, hn, h2]
theorem Qg3 {T : Type} {c : T → List PV} {e : Nat} (hc : ∀ v, (c v).length = e) : ∀ (l : List T) (i : Nat) (v : T), l[i]? = some v → ∃ r, (Wt c l).drop (i * e) = (c v).map AV.p ++ r
 | [], i, v, h => by simp at h
 | u :: l, 0, v, h => by simp at h; subst h; exact ⟨Wt c l, by simp [Wt]⟩
 | u :: l, i + 1, v, h => by
  obtain ⟨r, hr⟩ := Qg3 hc l i v (by simpa using h)
  refine ⟨r, ?_⟩
  have : (i + 1) * e = ((c u).map AV.p).length + i * e := by simp [hc, Nat.succ_mul]; omega
  rw [Wt, this, ← List.drop_drop, List.drop_left]; exact hr
theorem Qsy {T : Type} {c : T → List PV} {e : Nat} (hc : ∀ v, (c v).length = e) {l : List T} {i : Int} {v : T} (hv : idx l i = some v) {off n : Nat} {b : Bool} {k : AV → Prop} (hn : off + n ≤ e) {j : Nat} (hj : j = i.toNat * e + off)
  (h : Q0e (EP P Gl) b ((((c v).drop off).take n).map AV.p) k) : Q90 j (Wt c l) (fun cs => Qa4 (EP P Gl) n cs (fun cs => Q0e (EP P Gl) b cs k)) := by
 subst hj
 obtain ⟨_, _, h3⟩ := Q8a hv
 obtain ⟨r, hr⟩ := Qg3 hc l _ v h3
 have e1 : (Wt c l).drop (i.toNat * e + off) = ((c v).map AV.p).drop off ++ r := by
  rw [← List.drop_drop, hr, List.drop_append_of_le_length (by simp [hc]; omega)]
 rw [Gu, e1, Q1n]
 have e2 : (((c v).map AV.p).drop off ++ r).take n = (((c v).drop off).take n).map AV.p := by
  rw [List.take_append_of_le_length (by simp [hc]; omega), ← List.map_drop, ← List.map_take]
 unfold Q1e
 rw [e2, if_pos (by simp [hc]; omega)]
 exact h
theorem Qrm {l : List Int} {n : Nat} (hn : n = l.length) {k : List UInt8 → Prop} (h : k (l.map fun n => UInt8.ofNat n.toNat)) : Qa4 (EP P Gl) n (Wt (cI .u8) l) (fun cs => Q65 (EP P Gl) k cs) := by
 subst hn
 have h1 : (Wt (cI .u8) l).length = l.length := by rw [Q6i (e := 1) (fun _ => rfl)]; omega
 rw [Q1n]
 unfold Q1e
 rw [List.take_of_length_le (by omega), if_pos h1]
 show Q65 (EP P Gl) k (Wt (cI .u8) l)
 rw [Qbz]
 have : ∀ l : List Int, Qka (Wt (cI .u8) l) = some (l.map fun n => UInt8.ofNat n.toNat) := by
  intro l
  induction l with
  | nil => simp [Wt, Qka]
  | cons b l ih => simp [Wt, Qka, ih]
 rw [this]; exact h
theorem Quh {b : List UInt8} {k : List AV → Prop} (h : k (Wt (cI .u8) (b.map fun x => (x.toNat : Int)))) :
  @List.rec UInt8 (fun _ => Up hi9 ((List AV → Prop) → Prop)) (fun k => k []) (fun v _ ih k => ih fun r => k (AV.p (.int .u8 (v.toNat : Int)) :: r)) b k := by
 have e : ∀ b : List UInt8, Wt (cI .u8) (b.map fun x => (x.toNat : Int)) = b.map fun x => AV.p (.int .u8 (x.toNat : Int)) := by
  intro b
  induction b with
  | nil => rfl
  | cons x b ih => simp [Wt, cI]; simpa [cI] using ih
 rw [e] at h
 have := Ug (α := Prop) (fun x : UInt8 => AV.p (.int .u8 (x.toNat : Int))) b k
 show Q9i (fun x : UInt8 => AV.p (.int .u8 (x.toNat : Int))) b k
 rw [this]; exact h
theorem Qwn {T : Type} {c : T → List PV} {n : Nat} {zero : List PV} (z : T) (hz : c z = zero) {k : List AV → Prop} (h : k (Wt c (List.replicate n z))) :
  Q9i AV.p (List.replicate n zero).flatten k := by
 rw [Ug]
 have e : ∀ n, Wt c (List.replicate n z) = (List.replicate n zero).flatten.map AV.p := by
  intro n
  induction n with
  | zero => rfl
  | succ n ih => simp [List.replicate_succ, Wt, ih, hz]
 rw [← e]; exact h
theorem Qgr {T : Type} {c : T → List PV} {e : Nat} (hc : ∀ v, (c v).length = e) {l : List T} {i : Int} {v : T} (hv : idx l i = some v) {off n j m : Nat} (hj : j = i.toNat * e + off) (hm : m = n) (hn : off + n ≤ e) :
  (Nat.beq m n && Nat.ble (j + n) (Wt c l).length) = true := by
 obtain ⟨_, h2, _⟩ := Q8a hv
 have h3 : i.toNat + 1 ≤ l.length := by omega
 have := Nat.mul_le_mul_right e h3
 rw [Q6i hc, hm, hj]
 simp only [Nat.beq_refl, Bool.true_and, Nat.ble_eq]
 rw [Nat.succ_mul] at this
 omega
theorem Qkn {T : Type} {c : T → List PV} {e : Nat} (hc : ∀ v, (c v).length = e) : ∀ (l : List T) (i : Nat) (v v' : T) (off : Nat) (new : List AV), l[i]? = some v →
  (c v').map AV.p = ((c v).map AV.p).take off ++ (new ++ ((c v).map AV.p).drop (off + new.length)) → off + new.length ≤ e →
  Wt c (l.set i v') = (Wt c l).take (i * e + off) ++ (new ++ (Wt c l).drop (i * e + off + new.length))
 | [], i, v, v', off, new, h, _, _ => by simp at h
 | u :: l, 0, v, v', off, new, h, hn, hl => by
  simp at h; subst h
  have h1 : ((c u).map AV.p).length = e := by simp [hc]
  simp only [List.set_cons_zero, Wt, Nat.zero_mul, Nat.zero_add]
  rw [List.take_append_of_le_length (by omega), List.drop_append_of_le_length (by omega), hn]
  simp
 | u :: l, i + 1, v, v', off, new, h, hn, hl => by
  have h1 : ((c u).map AV.p).length = e := by simp [hc]
  have ih := Qkn hc l i v v' off new (by simpa using h) hn hl
  have e1 : (i + 1) * e + off = ((c u).map AV.p).length + (i * e + off) := by rw [h1, Nat.succ_mul]; omega
  simp only [List.set_cons_succ, Wt]
  rw [e1, Nat.add_assoc, List.take_length_add_append, List.drop_length_add_append, ih]
  simp
theorem Qhc {T : Type} {c : T → List PV} {e : Nat} (hc : ∀ v, (c v).length = e) {l : List T} {i : Int} {v : T} (hv : idx l i = some v) (v' : T) {off j : Nat} {new : List AV} (hj : j = i.toNat * e + off)
  (hnew : (c v').map AV.p = ((c v).map AV.p).take off ++ (new ++ ((c v).map AV.p).drop (off + new.length))) (hlen : off + new.length ≤ e) {k : List AV → Prop} (h : k (Wt c (l.set i.toNat v'))) : Q6w (Wt c l) j new k := by
 obtain ⟨_, _, h3⟩ := Q8a hv
 rw [Q68, Q01, hj, ← Qkn hc l i.toNat v v' off new h3 hnew hlen]
 exact h
theorem Qor {T : Type} {c : T → List PV} {e : Nat} (hc : ∀ v, (c v).length = e) {cs : List PV} {l : List T} (hl : cs = (J3 c l).flatten) {i : Int} {v : T} (hv : idx l i = some v) {off n : Nat} {b : Bool} {k : AV → Prop} (hn : off + n ≤ e) {j : Nat} (hj : j = i.toNat * e + off)
  (h : Q0e (EP P Gl) b ((((c v).drop off).take n).map AV.p) k) : Q90 j cs (fun cs => Q9i AV.p cs (fun cs => Qa4 (EP P Gl) n cs (fun cs => Q0e (EP P Gl) b cs k))) := by
 have h1 := Qsy hc hv hn hj h
 rw [Qbi, ← hl, Gu] at h1
 rw [Gu, Ug, List.map_drop]
 exact h1
end
end
end Go.Av
