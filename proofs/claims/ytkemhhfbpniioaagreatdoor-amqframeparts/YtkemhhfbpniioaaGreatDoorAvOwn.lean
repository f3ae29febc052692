/- An abstract machine for the modelled code, and what its runs say of real calls. Part of a proof of a given statement: for every input the law returns true and the arguments read as before; no condition beyond the given row. -/
import Derived.Test.YtkemhhfbpniioaaGreatDoorAvLift
import Derived.Test.YtkemhhfbpniioaaGreatDoorAvJoin
namespace Go.Av
noncomputable section
section
variable {P : Program} {Gl : Nat → Option (List PV)}
def X3 {T : Type} (c : T → List PV) : List T → List AV
 | [] => []
 | v :: l => (c v).map AV.p ++ X3 c l
theorem Qh5 {T : Type} (c : T → List PV) (l m : List T) : X3 c (l ++ m) = X3 c l ++ X3 c m := by
 induction l with
 | nil => rfl
 | cons v l ih => simp [X3, ih]
theorem Q18 {T : Type} {c : T → List PV} {e : Nat} (hc : ∀ v, (c v).length = e) (l : List T) : (X3 c l).length = l.length * e := by
 induction l with
 | nil => simp [X3]
 | cons v l ih => simp [X3, ih, hc, Nat.succ_mul]; omega
theorem Q8x {T : Type} (c : T → List PV) (l : List T) : X3 c l = (Vo c l).flatten.map AV.p := by
 induction l with
 | nil => rfl
 | cons v l ih => simp [X3, ih, Vo]
theorem Gz {T : Type} {c : T → List PV} {l : List T} {new : List AV} (vs : List T) {k : List AV → Prop} (e : new = X3 c vs) (h : k (X3 c (l ++ vs))) : Qdk (X3 c l) new k := by
 rw [Jw, e, ← Qh5]; exact h
theorem J5 {T : Type} {c : T → List PV} {e : Nat} (hc : ∀ v, (c v).length = e) {l : List T} {g : Bool} {n : Nat} (hn : n = l.length) (h : g = true) : (Nat.beq e e && (Nat.beq (0 + n * e) (X3 c l).length && g)) = true := by
 rw [h, Q18 hc, hn]; simp
theorem Qa {T : Type} (c : T → List PV) (l : List T) (n : Nat) : Gp n (.cells (X3 c l)) = true := by
 have : ∀ ps : List PV, refsLt.refsLts n (ps.map AV.p) = true := by
  intro ps
  induction ps with
  | nil => rfl
  | cons p ps ih => simp [refsLt.refsLts, refsLt, ih]
 rw [Q8x]; exact this _
theorem Qlk {T : Type} (ρ : Nat → Nat) (c : T → List PV) (l : List T) : Qnq ρ (.cells (X3 c l)) = .cells (X3 c l) := by
 have : ∀ ps : List PV, Qa9 ρ (ps.map AV.p) = ps.map AV.p := by
  intro ps
  induction ps with
  | nil => rfl
  | cons p ps ih => simp [Qa9, Q3l, ih]
 simp only [Qnq, Q8x, this]
theorem hO {T : Type} {c : T → List PV} {l : List T} {ρ : Nat → Nat} {K : Nat → Prop} {H : List AObj} {i : Nat} {r : List AObj} (e : H[ρ i]? = some (.cells (X3 c l))) (h : Qaa ρ K H (i + 1) r) : Qaa ρ K H i (.cells (X3 c l) :: r) :=
 hE (by rw [Qlk]; exact e) h
theorem roN {f : AObj → Bool} : ([] : List AObj).all f = true := rfl
theorem roE {f : AObj → Bool} {o : AObj} {r : List AObj} (h : f o = true) (t : r.all f = true) : (o :: r).all f = true := by simp [h, t]
def rho (l : List Nat) (i : Nat) : Nat := l.getD i i
theorem frz_own {T : Type} {c : T → List PV} {e : Nat} (hc : ∀ v, (c v).length = e) {K : Nat → Prop} {H : List AObj} {a n : Nat} {l : List T} (ho : H[a]? = some (.cells (X3 c l))) (hk : K a) (hn : n = l.length) :
  Frz K H (.slice e a 0 n) (.slice e (Vo c l)) := by
 subst hn
 have hl : (Vo c l).flatten.length = l.length * e := by
  have := Q18 hc l
  rw [Q8x, List.length_map] at this; exact this
 have hcs : ((X3 c l).drop 0).take (l.length * e) = X3 c l := by
  rw [List.drop_zero]; exact List.take_of_length_le (by rw [Q18 hc]; exact Nat.le_refl _)
 refine .slice e a 0 l.length (X3 c l) (Vo c l) hk ho (U1 c l) (fun r hr => ?_) ?_ (fun i v x hv hx => ?_)
 ·simp only [Vo, List.mem_map] at hr
  obtain ⟨y, _, rfl⟩ := hr
  exact hc y
 ·rw [hcs, Q18 hc, hl]
 ·rw [hcs, Q8x, List.getElem?_map, hx] at hv
  cases hv
  exact .p _
theorem Qql {α : Type} {i : Int} : idx ([] : List α) i = none := by cases i <;> rfl
theorem Q5z {α : Type} {l : List α} {i : Int} {v : α} (h : idx l i = some v) : 0 ≤ i ∧ i < l.length ∧ l[i.toNat]? = some v := by
 cases i with
 | ofNat n =>
  simp only [idx] at h
  have := (List.getElem?_eq_some_iff.1 h).1
  exact ⟨Int.natCast_nonneg n, by show (n : Int) < l.length; omega, h⟩
 | negSucc n => cases h
theorem Qc4 {α : Type} {l : List α} {i : Int} {v : α} {n : Nat} (h : idx l i = some v) (hn : n = l.length) : (decide (0 ≤ i) && decide (i < (n : Int))) = true := by
 obtain ⟨h1, h2, _⟩ := Q5z h
 simp [h1, hn, h2]
theorem Qdf {T : Type} {c : T → List PV} {e : Nat} (hc : ∀ v, (c v).length = e) : ∀ (l : List T) (i : Nat) (v : T), l[i]? = some v → ∃ r, (X3 c l).drop (i * e) = (c v).map AV.p ++ r
 | [], i, v, h => by simp at h
 | u :: l, 0, v, h => by simp at h; subst h; exact ⟨X3 c l, by simp [X3]⟩
 | u :: l, i + 1, v, h => by
  obtain ⟨r, hr⟩ := Qdf hc l i v (by simpa using h)
  refine ⟨r, ?_⟩
  have : (i + 1) * e = ((c u).map AV.p).length + i * e := by simp [hc, Nat.succ_mul]; omega
  rw [X3, this, ← List.drop_drop, List.drop_left]; exact hr
theorem Qpz {T : Type} {c : T → List PV} {e : Nat} (hc : ∀ v, (c v).length = e) {l : List T} {i : Int} {v : T} (hv : idx l i = some v) {off n : Nat} {b : Bool} {k : AV → Prop} (hn : off + n ≤ e) {j : Nat} (hj : j = i.toNat * e + off)
  (h : G3 (EP P Gl) b ((((c v).drop off).take n).map AV.p) k) : Q6v j (X3 c l) (fun cs => Q7u (EP P Gl) n cs (fun cs => G3 (EP P Gl) b cs k)) := by
 subst hj
 obtain ⟨_, _, h3⟩ := Q5z hv
 obtain ⟨r, hr⟩ := Qdf hc l _ v h3
 have e1 : (X3 c l).drop (i.toNat * e + off) = ((c v).map AV.p).drop off ++ r := by
  rw [← List.drop_drop, hr, List.drop_append_of_le_length (by simp [hc]; omega)]
 rw [Jc, e1, Q02]
 have e2 : (((c v).map AV.p).drop off ++ r).take n = (((c v).drop off).take n).map AV.p := by
  rw [List.take_append_of_le_length (by simp [hc]; omega), ← List.map_drop, ← List.map_take]
 unfold Gn
 rw [e2, if_pos (by simp [hc]; omega)]
 exact h
theorem Qk7 {l : List Int} {n : Nat} (hn : n = l.length) {k : List UInt8 → Prop} (h : k (l.map fun n => UInt8.ofNat n.toNat)) : Q7u (EP P Gl) n (X3 (cI .u8) l) (fun cs => Q47 (EP P Gl) k cs) := by
 subst hn
 have h1 : (X3 (cI .u8) l).length = l.length := by rw [Q18 (e := 1) (fun _ => rfl)]; omega
 rw [Q02]
 unfold Gn
 rw [List.take_of_length_le (by omega), if_pos h1]
 show Q47 (EP P Gl) k (X3 (cI .u8) l)
 rw [Q9c]
 have : ∀ l : List Int, Qhl (X3 (cI .u8) l) = some (l.map fun n => UInt8.ofNat n.toNat) := by
  intro l
  induction l with
  | nil => simp [X3, Qhl]
  | cons b l ih => simp [X3, Qhl, ih]
 rw [this]; exact h
theorem Q7a {b : List UInt8} {k : List AV → Prop} (h : k (X3 (cI .u8) (b.map fun x => (x.toNat : Int)))) :
  @List.rec UInt8 (fun _ => Up hi9 ((List AV → Prop) → Prop)) (fun k => k []) (fun v _ ih k => ih fun r => k (AV.p (.int .u8 (v.toNat : Int)) :: r)) b k := by
 have e : ∀ b : List UInt8, X3 (cI .u8) (b.map fun x => (x.toNat : Int)) = b.map fun x => AV.p (.int .u8 (x.toNat : Int)) := by
  intro b
  induction b with
  | nil => rfl
  | cons x b ih => simp [X3, cI]; simpa [cI] using ih
 rw [e] at h
 have := V8 (α := Prop) (fun x : UInt8 => AV.p (.int .u8 (x.toNat : Int))) b k
 show Q7j (fun x : UInt8 => AV.p (.int .u8 (x.toNat : Int))) b k
 rw [this]; exact h
theorem Qth {T : Type} {c : T → List PV} {n : Nat} {zero : List PV} (z : T) (hz : c z = zero) {k : List AV → Prop} (h : k (X3 c (List.replicate n z))) :
  Q7j AV.p (List.replicate n zero).flatten k := by
 rw [V8]
 have e : ∀ n, X3 c (List.replicate n z) = (List.replicate n zero).flatten.map AV.p := by
  intro n
  induction n with
  | zero => rfl
  | succ n ih => simp [List.replicate_succ, X3, ih, hz]
 rw [← e]; exact h
theorem Qe0 {T : Type} {c : T → List PV} {e : Nat} (hc : ∀ v, (c v).length = e) {l : List T} {i : Int} {v : T} (hv : idx l i = some v) {off n j m : Nat} (hj : j = i.toNat * e + off) (hm : m = n) (hn : off + n ≤ e) :
  (Nat.beq m n && Nat.ble (j + n) (X3 c l).length) = true := by
 obtain ⟨_, h2, _⟩ := Q5z hv
 have h3 : i.toNat + 1 ≤ l.length := by omega
 have := Nat.mul_le_mul_right e h3
 rw [Q18 hc, hm, hj]
 simp only [Nat.beq_refl, Bool.true_and, Nat.ble_eq]
 rw [Nat.succ_mul] at this
 omega
theorem Qhv {T : Type} {c : T → List PV} {e : Nat} (hc : ∀ v, (c v).length = e) : ∀ (l : List T) (i : Nat) (v v' : T) (off : Nat) (new : List AV), l[i]? = some v →
  (c v').map AV.p = ((c v).map AV.p).take off ++ (new ++ ((c v).map AV.p).drop (off + new.length)) → off + new.length ≤ e →
  X3 c (l.set i v') = (X3 c l).take (i * e + off) ++ (new ++ (X3 c l).drop (i * e + off + new.length))
 | [], i, v, v', off, new, h, _, _ => by simp at h
 | u :: l, 0, v, v', off, new, h, hn, hl => by
  simp at h; subst h
  have h1 : ((c u).map AV.p).length = e := by simp [hc]
  simp only [List.set_cons_zero, X3, Nat.zero_mul, Nat.zero_add]
  rw [List.take_append_of_le_length (by omega), List.drop_append_of_le_length (by omega), hn]
  simp
 | u :: l, i + 1, v, v', off, new, h, hn, hl => by
  have h1 : ((c u).map AV.p).length = e := by simp [hc]
  have ih := Qhv hc l i v v' off new (by simpa using h) hn hl
  have e1 : (i + 1) * e + off = ((c u).map AV.p).length + (i * e + off) := by rw [h1, Nat.succ_mul]; omega
  simp only [List.set_cons_succ, X3]
  rw [e1, Nat.add_assoc, List.take_length_add_append, List.drop_length_add_append, ih]
  simp
theorem Qdg {T : Type} {c : T → List PV} {e : Nat} (hc : ∀ v, (c v).length = e) {l : List T} {i : Int} {v : T} (hv : idx l i = some v) (v' : T) {off j : Nat} {new : List AV} (hj : j = i.toNat * e + off)
  (hnew : (c v').map AV.p = ((c v).map AV.p).take off ++ (new ++ ((c v).map AV.p).drop (off + new.length))) (hlen : off + new.length ≤ e) {k : List AV → Prop} (h : k (X3 c (l.set i.toNat v'))) : Q52 (X3 c l) j new k := by
 obtain ⟨_, _, h3⟩ := Q5z hv
 rw [Q1j, J2, hj, ← Qhv hc l i.toNat v v' off new h3 hnew hlen]
 exact h
theorem Qk0 {T : Type} {c : T → List PV} {e : Nat} (hc : ∀ v, (c v).length = e) {cs : List PV} {l : List T} (hl : cs = (Vo c l).flatten) {i : Int} {v : T} (hv : idx l i = some v) {off n : Nat} {b : Bool} {k : AV → Prop} (hn : off + n ≤ e) {j : Nat} (hj : j = i.toNat * e + off)
  (h : G3 (EP P Gl) b ((((c v).drop off).take n).map AV.p) k) : Q6v j cs (fun cs => Q7j AV.p cs (fun cs => Q7u (EP P Gl) n cs (fun cs => G3 (EP P Gl) b cs k))) := by
 have h1 := Qpz hc hv hn hj h
 rw [Q8x, ← hl, Jc] at h1
 rw [Jc, V8, List.map_drop]
 exact h1
theorem Qmq {T : Type} {c : T → List PV} (hc : ∀ v, (c v).length = 1) {l : List T} {n : Nat} (hn : n = l.length) (h : Nat.ble 1 n = true) : (Nat.beq 1 1 && (Nat.ble (0 + n) (X3 c l).length && Nat.ble 1 n)) = true := by
 rw [h, Q18 hc, hn]; simp
theorem Qqy {T : Type} {c : T → List PV} (hc : ∀ v, (c v).length = 1) {l new : List T} {len : Nat} {k : Nat → List AV → Prop} (h : k (new.take len).length (X3 c (new.take len ++ l.drop (new.take len).length))) :
  Qcf len (X3 c new) (X3 c l) 0 k := by
 have dr : ∀ (l : List T) n, (X3 c l).drop n = X3 c (l.drop n) := by
  intro l
  induction l with
  | nil => intro n; simp [X3]
  | cons v l ih =>
   intro n
   cases n with
   | zero => rfl
   | succ n =>
    have h1 : ((c v).map AV.p).length = 1 := by simp [hc]
    rw [X3, List.drop_succ_cons, ← ih n, show n + 1 = ((c v).map AV.p).length + n by omega, ← List.drop_drop, List.drop_left]
 have tk : ∀ (l : List T) n, (X3 c l).take n = X3 c (l.take n) := by
  intro l
  induction l with
  | nil => intro n; simp [X3]
  | cons v l ih =>
   intro n
   cases n with
   | zero => rfl
   | succ n =>
    have h1 : ((c v).map AV.p).length = 1 := by simp [hc]
    rw [X3, List.take_succ_cons, X3, ← ih n, show n + 1 = ((c v).map AV.p).length + n by omega, List.take_length_add_append]
 unfold Qcf
 rw [Q45, Q8f, Q1j, J2, tk, Q18 hc, Nat.mul_one, Nat.zero_add, dr, List.take_zero, List.nil_append, ← Qh5]
 exact h
end
end
end Go.Av
