/- An abstract machine for the modelled code, and what its runs say of real calls. Part of a proof of a given statement: for every input the law returns true and the arguments read as before; no condition beyond the given row. -/
import Derived.Test.YtegedmcbfmfjeaaDoorAvLift
import Derived.Test.YtegedmcbfmfjeaaDoorAvJoin
namespace Go.Av
noncomputable section
section
variable {P : Program} {Gl : Nat → Option (List PV)}
def Ud {T : Type} (c : T → List PV) : List T → List AV
 | [] => []
 | v :: l => (c v).map AV.p ++ Ud c l
theorem Qkk {T : Type} (c : T → List PV) (l m : List T) : Ud c (l ++ m) = Ud c l ++ Ud c m := by
 induction l with
 | nil => rfl
 | cons v l ih => simp [Ud, ih]
theorem Q3e {T : Type} {c : T → List PV} {e : Nat} (hc : ∀ v, (c v).length = e) (l : List T) : (Ud c l).length = l.length * e := by
 induction l with
 | nil => simp [Ud]
 | cons v l ih => simp [Ud, ih, hc, Nat.succ_mul]; omega
theorem Q6s {T : Type} (c : T → List PV) (l : List T) : Ud c l = (Vo c l).flatten.map AV.p := by
 induction l with
 | nil => rfl
 | cons v l ih => simp [Ud, ih, Vo]
theorem Uh {T : Type} {c : T → List PV} {l : List T} {new : List AV} (vs : List T) {k : List AV → Prop} (e : new = Ud c vs) (h : k (Ud c (l ++ vs))) : Qbj (Ud c l) new k := by
 rw [Ut, e, ← Qkk]; exact h
theorem V2 {T : Type} {c : T → List PV} {e : Nat} (hc : ∀ v, (c v).length = e) {l : List T} {g : Bool} {n : Nat} (hn : n = l.length) (h : g = true) : (Nat.beq e e && (Nat.beq (0 + n * e) (Ud c l).length && g)) = true := by
 rw [h, Q3e hc, hn]; simp
theorem Qp {T : Type} (c : T → List PV) (l : List T) (n : Nat) : Jh n (.cells (Ud c l)) = true := by
 have : ∀ ps : List PV, refsLt.refsLts n (ps.map AV.p) = true := by
  intro ps
  induction ps with
  | nil => rfl
  | cons p ps ih => simp [refsLt.refsLts, refsLt, ih]
 rw [Q6s]; exact this _
theorem Qjf {T : Type} (ρ : Nat → Nat) (c : T → List PV) (l : List T) : Qkf ρ (.cells (Ud c l)) = .cells (Ud c l) := by
 have : ∀ ps : List PV, Q8g ρ (ps.map AV.p) = ps.map AV.p := by
  intro ps
  induction ps with
  | nil => rfl
  | cons p ps ih => simp [Q8g, Q20, ih]
 simp only [Qkf, Q6s, this]
theorem hO {T : Type} {c : T → List PV} {l : List T} {ρ : Nat → Nat} {K : Nat → Prop} {H : List AObj} {i : Nat} {r : List AObj} (e : H[ρ i]? = some (.cells (Ud c l))) (h : Q87 ρ K H (i + 1) r) : Q87 ρ K H i (.cells (Ud c l) :: r) :=
 hE (by rw [Qjf]; exact e) h
theorem roN {f : AObj → Bool} : ([] : List AObj).all f = true := rfl
theorem roE {f : AObj → Bool} {o : AObj} {r : List AObj} (h : f o = true) (t : r.all f = true) : (o :: r).all f = true := by simp [h, t]
def rho (l : List Nat) (i : Nat) : Nat := l.getD i i
theorem frz_own {T : Type} {c : T → List PV} {e : Nat} (hc : ∀ v, (c v).length = e) {K : Nat → Prop} {H : List AObj} {a n : Nat} {l : List T} (ho : H[a]? = some (.cells (Ud c l))) (hk : K a) (hn : n = l.length) :
  Frz K H (.slice e a 0 n) (.slice e (Vo c l)) := by
 subst hn
 have hl : (Vo c l).flatten.length = l.length * e := by
  have := Q3e hc l
  rw [Q6s, List.length_map] at this; exact this
 have hcs : ((Ud c l).drop 0).take (l.length * e) = Ud c l := by
  rw [List.drop_zero]; exact List.take_of_length_le (by rw [Q3e hc]; exact Nat.le_refl _)
 refine .slice e a 0 l.length (Ud c l) (Vo c l) hk ho (Ug c l) (fun r hr => ?_) ?_ (fun i v x hv hx => ?_)
 ·simp only [Vo, List.mem_map] at hr
  obtain ⟨y, _, rfl⟩ := hr
  exact hc y
 ·rw [hcs, Q3e hc, hl]
 ·rw [hcs, Q6s, List.getElem?_map, hx] at hv
  cases hv
  exact .p _
theorem Q4h {α : Type} {l : List α} {i : Int} {v : α} (h : idx l i = some v) : 0 ≤ i ∧ i < l.length ∧ l[i.toNat]? = some v := by
 cases i with
 | ofNat n =>
  simp only [idx] at h
  have := (List.getElem?_eq_some_iff.1 h).1
  exact ⟨Int.natCast_nonneg n, by show (n : Int) < l.length; omega, h⟩
 | negSucc n => cases h
theorem Qa9 {α : Type} {l : List α} {i : Int} {v : α} {n : Nat} (h : idx l i = some v) (hn : n = l.length) : (decide (0 ≤ i) && decide (i < (n : Int))) = true := by
 obtain ⟨h1, h2, _⟩ := Q4h h
 simp [h1, hn, h2]
theorem Qbg {T : Type} {c : T → List PV} {e : Nat} (hc : ∀ v, (c v).length = e) : ∀ (l : List T) (i : Nat) (v : T), l[i]? = some v → ∃ r, (Ud c l).drop (i * e) = (c v).map AV.p ++ r
 | [], i, v, h => by simp at h
 | u :: l, 0, v, h => by simp at h; subst h; exact ⟨Ud c l, by simp [Ud]⟩
 | u :: l, i + 1, v, h => by
  obtain ⟨r, hr⟩ := Qbg hc l i v (by simpa using h)
  refine ⟨r, ?_⟩
  have : (i + 1) * e = ((c u).map AV.p).length + i * e := by simp [hc, Nat.succ_mul]; omega
  rw [Ud, this, ← List.drop_drop, List.drop_left]; exact hr
theorem Qnl {T : Type} {c : T → List PV} {e : Nat} (hc : ∀ v, (c v).length = e) {l : List T} {i : Int} {v : T} (hv : idx l i = some v) {off n : Nat} {b : Bool} {k : AV → Prop} (hn : off + n ≤ e) {j : Nat} (hj : j = i.toNat * e + off)
  (h : Um (EP P Gl) b ((((c v).drop off).take n).map AV.p) k) : Q4t j (Ud c l) (fun cs => Q7g (EP P Gl) n cs (fun cs => Um (EP P Gl) b cs k)) := by
 subst hj
 obtain ⟨_, _, h3⟩ := Q4h hv
 obtain ⟨r, hr⟩ := Qbg hc l _ v h3
 have e1 : (Ud c l).drop (i.toNat * e + off) = ((c v).map AV.p).drop off ++ r := by
  rw [← List.drop_drop, hr, List.drop_append_of_le_length (by simp [hc]; omega)]
 rw [U7, e1, Gt]
 have e2 : (((c v).map AV.p).drop off ++ r).take n = (((c v).drop off).take n).map AV.p := by
  rw [List.take_append_of_le_length (by simp [hc]; omega), ← List.map_drop, ← List.map_take]
 unfold Jz
 rw [e2, if_pos (by simp [hc]; omega)]
 exact h
theorem Qcl {T : Type} {c : T → List PV} {e : Nat} (hc : ∀ v, (c v).length = e) {l : List T} {i : Int} {v : T} (hv : idx l i = some v) {off n j m : Nat} (hj : j = i.toNat * e + off) (hm : m = n) (hn : off + n ≤ e) :
  (Nat.beq m n && Nat.ble (j + n) (Ud c l).length) = true := by
 obtain ⟨_, h2, _⟩ := Q4h hv
 have h3 : i.toNat + 1 ≤ l.length := by omega
 have := Nat.mul_le_mul_right e h3
 rw [Q3e hc, hm, hj]
 simp only [Nat.beq_refl, Bool.true_and, Nat.ble_eq]
 rw [Nat.succ_mul] at this
 omega
theorem Qfb {T : Type} {c : T → List PV} {e : Nat} (hc : ∀ v, (c v).length = e) : ∀ (l : List T) (i : Nat) (v v' : T) (off : Nat) (new : List AV), l[i]? = some v →
  (c v').map AV.p = ((c v).map AV.p).take off ++ (new ++ ((c v).map AV.p).drop (off + new.length)) → off + new.length ≤ e →
  Ud c (l.set i v') = (Ud c l).take (i * e + off) ++ (new ++ (Ud c l).drop (i * e + off + new.length))
 | [], i, v, v', off, new, h, _, _ => by simp at h
 | u :: l, 0, v, v', off, new, h, hn, hl => by
  simp at h; subst h
  have h1 : ((c u).map AV.p).length = e := by simp [hc]
  simp only [List.set_cons_zero, Ud, Nat.zero_mul, Nat.zero_add]
  rw [List.take_append_of_le_length (by omega), List.drop_append_of_le_length (by omega), hn]
  simp
 | u :: l, i + 1, v, v', off, new, h, hn, hl => by
  have h1 : ((c u).map AV.p).length = e := by simp [hc]
  have ih := Qfb hc l i v v' off new (by simpa using h) hn hl
  have e1 : (i + 1) * e + off = ((c u).map AV.p).length + (i * e + off) := by rw [h1, Nat.succ_mul]; omega
  simp only [List.set_cons_succ, Ud]
  rw [e1, Nat.add_assoc, List.take_length_add_append, List.drop_length_add_append, ih]
  simp
theorem Qbf {T : Type} {c : T → List PV} {e : Nat} (hc : ∀ v, (c v).length = e) {l : List T} {i : Int} {v : T} (hv : idx l i = some v) (v' : T) {off j : Nat} {new : List AV} (hj : j = i.toNat * e + off)
  (hnew : (c v').map AV.p = ((c v).map AV.p).take off ++ (new ++ ((c v).map AV.p).drop (off + new.length))) (hlen : off + new.length ≤ e) {k : List AV → Prop} (h : k (Ud c (l.set i.toNat v'))) : Q2p (Ud c l) j new k := by
 obtain ⟨_, _, h3⟩ := Q4h hv
 rw [Q2c, Ua, hj, ← Qfb hc l i.toNat v v' off new h3 hnew hlen]
 exact h
theorem Qid {T : Type} {c : T → List PV} {e : Nat} (hc : ∀ v, (c v).length = e) {cs : List PV} {l : List T} (hl : cs = (Vo c l).flatten) {i : Int} {v : T} (hv : idx l i = some v) {off n : Nat} {b : Bool} {k : AV → Prop} (hn : off + n ≤ e) {j : Nat} (hj : j = i.toNat * e + off)
  (h : Um (EP P Gl) b ((((c v).drop off).take n).map AV.p) k) : Q4t j cs (fun cs => Q61 AV.p cs (fun cs => Q7g (EP P Gl) n cs (fun cs => Um (EP P Gl) b cs k))) := by
 have h1 := Qnl hc hv hn hj h
 rw [Q6s, ← hl, U7] at h1
 rw [U7, Wp, List.map_drop]
 exact h1
end
end
end Go.Av
