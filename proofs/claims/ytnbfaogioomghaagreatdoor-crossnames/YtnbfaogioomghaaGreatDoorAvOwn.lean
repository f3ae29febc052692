/- Part of the proof of CrossNames: for every input the law returns true; no condition. -/
import Derived.Test.YtnbfaogioomghaaGreatDoorAvLift
import Derived.Test.YtnbfaogioomghaaGreatDoorAvJoin
namespace Go.Av
noncomputable section
section
variable {P : Program} {Gl : Nat → Option (List PV)}
def Wg {T : Type} (c : T → List PV) : List T → List AV
 | [] => []
 | v :: l => (c v).map AV.p ++ Wg c l
theorem Qe7 {T : Type} (c : T → List PV) (l m : List T) : Wg c (l ++ m) = Wg c l ++ Wg c m := by
 induction l with
 | nil => rfl
 | cons v l ih => simp [Wg, ih]
theorem J6 {T : Type} {c : T → List PV} {e : Nat} (hc : ∀ v, (c v).length = e) (l : List T) : (Wg c l).length = l.length * e := by
 induction l with
 | nil => simp [Wg]
 | cons v l ih => simp [Wg, ih, hc, Nat.succ_mul]; omega
theorem Q2m {T : Type} (c : T → List PV) (l : List T) : Wg c l = (Zc c l).flatten.map AV.p := by
 induction l with
 | nil => rfl
 | cons v l ih => simp [Wg, ih, Zc]
theorem Qez {T : Type} {c : T → List PV} {l : List T} {new : List AV} (vs : List T) {k : List AV → Prop} (e : new = Wg c vs) (h : k (Wg c (l ++ vs))) : Q71 (Wg c l) new k := by
 rw [Xq, e, ← Qe7]; exact h
theorem Qcf {T : Type} {c : T → List PV} {e : Nat} (hc : ∀ v, (c v).length = e) {l : List T} {g : Bool} {n : Nat} (hn : n = l.length) (h : g = true) : (Nat.beq e e && (Nat.beq (0 + n * e) (Wg c l).length && g)) = true := by
 rw [h, J6 hc, hn]; simp
theorem Q8g {T : Type} (c : T → List PV) (l : List T) (n : Nat) : Xm n (.cells (Wg c l)) = true := by
 have : ∀ ps : List PV, refsLt.refsLts n (ps.map AV.p) = true := by
  intro ps
  induction ps with
  | nil => rfl
  | cons p ps ih => simp [refsLt.refsLts, refsLt, ih]
 rw [Q2m]; exact this _
theorem Qgr {T : Type} (ρ : Nat → Nat) (c : T → List PV) (l : List T) : Q3a ρ (.cells (Wg c l)) = .cells (Wg c l) := by
 have : ∀ ps : List PV, Q1f ρ (ps.map AV.p) = ps.map AV.p := by
  intro ps
  induction ps with
  | nil => rfl
  | cons p ps ih => simp [Q1f, Vh, ih]
 simp only [Q3a, Q2m, this]
theorem hO {T : Type} {c : T → List PV} {l : List T} {ρ : Nat → Nat} {K : Nat → Prop} {H : List AObj} {i : Nat} {r : List AObj} (e : H[ρ i]? = some (.cells (Wg c l))) (h : Q29 ρ K H (i + 1) r) : Q29 ρ K H i (.cells (Wg c l) :: r) :=
 hE (by rw [Qgr]; exact e) h
theorem roN {f : AObj → Bool} : ([] : List AObj).all f = true := rfl
theorem roE {f : AObj → Bool} {o : AObj} {r : List AObj} (h : f o = true) (t : r.all f = true) : (o :: r).all f = true := by simp [h, t]
def rho (l : List Nat) (i : Nat) : Nat := l.getD i i
theorem frz_own {T : Type} {c : T → List PV} {e : Nat} (hc : ∀ v, (c v).length = e) {K : Nat → Prop} {H : List AObj} {a n : Nat} {l : List T} (ho : H[a]? = some (.cells (Wg c l))) (hk : K a) (hn : n = l.length) :
  Frz K H (.slice e a 0 n) (.slice e (Zc c l)) := by
 subst hn
 have hl : (Zc c l).flatten.length = l.length * e := by
  have := J6 hc l;rw [Q2m, Me] at this; exact this
 have hcs : ((Wg c l).drop 0).take (l.length * e) = Wg c l := by
  rw [Bb]; exact Mo (by rw [J6 hc]; exact Lj _)
 refine .slice e a 0 l.length (Wg c l) (Zc c l) hk ho (Q6i c l) (fun r hr => ?_) ?_ (fun i v x hv hx => ?_)
 ·simp only [Zc, Mp] at hr;obtain ⟨y, _, rfl⟩ := hr;exact hc y
 ·rw [hcs, J6 hc, hl]
 rw [hcs, Q2m, Lh, hx] at hv;cases hv;exact .p _
theorem Gk {α : Type} {l : List α} {i : Int} {v : α} (h : idx l i = some v) : 0 ≤ i ∧ i < l.length ∧ l[i.toNat]? = some v := by
 cases i with
 | ofNat n =>
  simp only [idx] at h;have := (La.1 h).1;exact ⟨Int.natCast_nonneg n, by show (n : Int) < l.length; omega, h⟩
 | negSucc n => cases h
theorem Q87 {α : Type} {l : List α} {i : Int} {v : α} {n : Nat} (h : idx l i = some v) (hn : n = l.length) : (decide (0 ≤ i) && decide (i < (n : Int))) = true := by
 obtain ⟨h1, h2, _⟩ := Gk h;simp [h1, hn, h2]
theorem Q5s {T : Type} {c : T → List PV} {e : Nat} (hc : ∀ v, (c v).length = e) : ∀ (l : List T) (i : Nat) (v : T), l[i]? = some v → ∃ r, (Wg c l).drop (i * e) = (c v).map AV.p ++ r
 | [], i, v, h => by simp at h
 | u :: l, 0, v, h => by simp at h; subst h; exact ⟨Wg c l, by simp [Wg]⟩
 | u :: l, i + 1, v, h => by
  obtain ⟨r, hr⟩ := Q5s hc l i v (by simpa using h);refine ⟨r, ?_⟩
  have : (i + 1) * e = ((c u).map AV.p).length + i * e := by simp [hc, Nat.succ_mul]; omega
  rw [Wg, this, ← Mw, Bc]; exact hr
theorem Qf7 {T : Type} {c : T → List PV} {e : Nat} (hc : ∀ v, (c v).length = e) {l : List T} {i : Int} {v : T} (hv : idx l i = some v) {off n : Nat} {b : Bool} {k : AV → Prop} (hn : off + n ≤ e) {j : Nat} (hj : j = i.toNat * e + off)
  (h : Yj (EP P Gl) b ((((c v).drop off).take n).map AV.p) k) : Q0n j (Wg c l) (fun cs => Q1j (EP P Gl) n cs (fun cs => Yj (EP P Gl) b cs k)) := by
 subst hj;obtain ⟨_, _, h3⟩ := Gk hv;obtain ⟨r, hr⟩ := Q5s hc l _ v h3
 have e1 : (Wg c l).drop (i.toNat * e + off) = ((c v).map AV.p).drop off ++ r := by
  rw [← Mw, hr, Bj (by simp [hc]; omega)]
 rw [X4, e1, Ws]
 have e2 : (((c v).map AV.p).drop off ++ r).take n = (((c v).drop off).take n).map AV.p := by
  rw [Ng (by simp [hc]; omega), ← List.map_drop, ← List.map_take]
 unfold Wh;rw [e2, if_pos (by simp [hc]; omega)];exact h
theorem Qhz {l : List Int} {n : Nat} (hn : n = l.length) {k : List UInt8 → Prop} (h : k (l.map fun n => UInt8.ofNat n.toNat)) : Q1j (EP P Gl) n (Wg (cI .u8) l) (fun cs => Jh (EP P Gl) k cs) := by
 subst hn
 have h1 : (Wg (cI .u8) l).length = l.length := by rw [J6 (e := 1) (fun _ => rfl)]; omega
 rw [Ws];unfold Wh;rw [Mo (by omega), if_pos h1];show Jh (EP P Gl) k (Wg (cI .u8) l);rw [Q2c]
 have : ∀ l : List Int, Q8r (Wg (cI .u8) l) = some (l.map fun n => UInt8.ofNat n.toNat) := by
  intro l
  induction l with
  | nil => simp [Wg, Q8r]
  | cons b l ih => simp [Wg, Q8r, ih]
 rw [this]; exact h
theorem Qj3 {T : Type} {c : T → List PV} {n : Nat} {zero : List PV} (z : T) (hz : c z = zero) {k : List AV → Prop} (h : k (Wg c (List.replicate n z))) :
  Q0f AV.p (List.replicate n zero).flatten k := by
 rw [Zb]
 have e : ∀ n, Wg c (List.replicate n z) = (List.replicate n zero).flatten.map AV.p := by
  intro n
  induction n with
  | zero => rfl
  | succ n ih => simp [List.replicate_succ, Wg, ih, hz]
 rw [← e]; exact h
theorem Qbr {T : Type} {c : T → List PV} {e : Nat} (hc : ∀ v, (c v).length = e) {l : List T} {i : Int} {v : T} (hv : idx l i = some v) {off n j m : Nat} (hj : j = i.toNat * e + off) (hm : m = n) (hn : off + n ≤ e) :
  (Nat.beq m n && Nat.ble (j + n) (Wg c l).length) = true := by
 obtain ⟨_, h2, _⟩ := Gk hv
 have h3 : i.toNat + 1 ≤ l.length := by omega
 have := Nb e h3;rw [J6 hc, hm, hj];simp only [Bu, Ca, Nat.ble_eq];rw [Nc] at this;omega
theorem Q9o {T : Type} {c : T → List PV} {e : Nat} (hc : ∀ v, (c v).length = e) : ∀ (l : List T) (i : Nat) (v v' : T) (off : Nat) (new : List AV), l[i]? = some v →
  (c v').map AV.p = ((c v).map AV.p).take off ++ (new ++ ((c v).map AV.p).drop (off + new.length)) → off + new.length ≤ e →
  Wg c (l.set i v') = (Wg c l).take (i * e + off) ++ (new ++ (Wg c l).drop (i * e + off + new.length))
 | [], i, v, v', off, new, h, _, _ => by simp at h
 | u :: l, 0, v, v', off, new, h, hn, hl => by
  simp at h; subst h
  have h1 : ((c u).map AV.p).length = e := by simp [hc]
  simp only [List.set_cons_zero, Wg, Bt, Ly];rw [Ng (by omega), Bj (by omega), hn];simp
 | u :: l, i + 1, v, v', off, new, h, hn, hl => by
  have h1 : ((c u).map AV.p).length = e := by simp [hc]
  have ih := Q9o hc l i v v' off new (by simpa using h) hn hl
  have e1 : (i + 1) * e + off = ((c u).map AV.p).length + (i * e + off) := by rw [h1, Nc]; omega
  simp only [List.set_cons_succ, Wg];rw [e1, Mr, List.take_length_add_append, List.drop_length_add_append, ih];simp
theorem Qck {T : Type} {c : T → List PV} {e : Nat} (hc : ∀ v, (c v).length = e) {l : List T} {i : Int} {v : T} (hv : idx l i = some v) (v' : T) {off j : Nat} {new : List AV} (hj : j = i.toNat * e + off)
  (hnew : (c v').map AV.p = ((c v).map AV.p).take off ++ (new ++ ((c v).map AV.p).drop (off + new.length))) (hlen : off + new.length ≤ e) {k : List AV → Prop} (h : k (Wg c (l.set i.toNat v'))) : G5 (Wg c l) j new k := by
 obtain ⟨_, _, h3⟩ := Gk hv;rw [J8, X7, hj, ← Q9o hc l i.toNat v v' off new h3 hnew hlen];exact h
theorem Qcy {T : Type} {c : T → List PV} {e : Nat} (hc : ∀ v, (c v).length = e) {cs : List PV} {l : List T} (hl : cs = (Zc c l).flatten) {i : Int} {v : T} (hv : idx l i = some v) {off n : Nat} {b : Bool} {k : AV → Prop} (hn : off + n ≤ e) {j : Nat} (hj : j = i.toNat * e + off)
  (h : Yj (EP P Gl) b ((((c v).drop off).take n).map AV.p) k) : Q0n j cs (fun cs => Q0f AV.p cs (fun cs => Q1j (EP P Gl) n cs (fun cs => Yj (EP P Gl) b cs k))) := by
 have h1 := Qf7 hc hv hn hj h;rw [Q2m, ← hl, X4] at h1;rw [X4, Zb, List.map_drop];exact h1
end
end
end Go.Av
