/- An abstract machine for the modelled code, and what its runs say of real calls. Part of a proof of a given statement: for every input the law returns true and the arguments read as before; no condition beyond the given row. -/
import Derived.Test.YtkemhhfbpniioaaGreatDoorAvLift
import Derived.Test.YtkemhhfbpniioaaGreatDoorAvJoin
namespace Go.Av
noncomputable section
section
variable {P : Program} {Gl : Nat → Option (List PV)}
def Yk {T : Type} (c : T → List PV) : List T → List AV
 | [] => []
 | v :: l => (c v).map AV.p ++ Yk c l
theorem Qgx {T : Type} (c : T → List PV) (l m : List T) : Yk c (l ++ m) = Yk c l ++ Yk c m := by
 induction l with
 | nil => rfl
 | cons v l ih => simp [Yk, ih]
theorem Q0o {T : Type} {c : T → List PV} {e : Nat} (hc : ∀ v, (c v).length = e) (l : List T) : (Yk c l).length = l.length * e := by
 induction l with
 | nil => simp [Yk]
 | cons v l ih => simp [Yk, ih, hc, Nat.succ_mul]; omega
theorem Q8t {T : Type} (c : T → List PV) (l : List T) : Yk c l = (G2 c l).flatten.map AV.p := by
 induction l with
 | nil => rfl
 | cons v l ih => simp [Yk, ih, G2]
theorem Vh {T : Type} {c : T → List PV} {l : List T} {new : List AV} (vs : List T) {k : List AV → Prop} (e : new = Yk c vs) (h : k (Yk c (l ++ vs))) : Qeg (Yk c l) new k := by
 rw [Jk, e, ← Qgx]; exact h
theorem Xo {T : Type} {c : T → List PV} {e : Nat} (hc : ∀ v, (c v).length = e) {l : List T} {g : Bool} {n : Nat} (hn : n = l.length) (h : g = true) : (Nat.beq e e && (Nat.beq (0 + n * e) (Yk c l).length && g)) = true := by
 rw [h, Q0o hc, hn]; simp
theorem Q7 {T : Type} (c : T → List PV) (l : List T) (n : Nat) : G5 n (.cells (Yk c l)) = true := by
 have : ∀ ps : List PV, refsLt.refsLts n (ps.map AV.p) = true := by
  intro ps
  induction ps with
  | nil => rfl
  | cons p ps ih => simp [refsLt.refsLts, refsLt, ih]
 rw [Q8t]; exact this _
theorem Qml {T : Type} (ρ : Nat → Nat) (c : T → List PV) (l : List T) : Qns ρ (.cells (Yk c l)) = .cells (Yk c l) := by
 have : ∀ ps : List PV, Qa8 ρ (ps.map AV.p) = ps.map AV.p := by
  intro ps
  induction ps with
  | nil => rfl
  | cons p ps ih => simp [Qa8, Q2t, ih]
 simp only [Qns, Q8t, this]
theorem hO {T : Type} {c : T → List PV} {l : List T} {ρ : Nat → Nat} {K : Nat → Prop} {H : List AObj} {i : Nat} {r : List AObj} (e : H[ρ i]? = some (.cells (Yk c l))) (h : Qa7 ρ K H (i + 1) r) : Qa7 ρ K H i (.cells (Yk c l) :: r) :=
 hE (by rw [Qml]; exact e) h
theorem roN {f : AObj → Bool} : ([] : List AObj).all f = true := rfl
theorem roE {f : AObj → Bool} {o : AObj} {r : List AObj} (h : f o = true) (t : r.all f = true) : (o :: r).all f = true := by simp [h, t]
def rho (l : List Nat) (i : Nat) : Nat := l.getD i i
theorem frz_own {T : Type} {c : T → List PV} {e : Nat} (hc : ∀ v, (c v).length = e) {K : Nat → Prop} {H : List AObj} {a n : Nat} {l : List T} (ho : H[a]? = some (.cells (Yk c l))) (hk : K a) (hn : n = l.length) :
  Frz K H (.slice e a 0 n) (.slice e (G2 c l)) := by
 subst hn
 have hl : (G2 c l).flatten.length = l.length * e := by
  have := Q0o hc l
  rw [Q8t, List.length_map] at this; exact this
 have hcs : ((Yk c l).drop 0).take (l.length * e) = Yk c l := by
  rw [List.drop_zero]; exact List.take_of_length_le (by rw [Q0o hc]; exact Nat.le_refl _)
 refine .slice e a 0 l.length (Yk c l) (G2 c l) hk ho (Q0j c l) (fun r hr => ?_) ?_ (fun i v x hv hx => ?_)
 ·simp only [G2, List.mem_map] at hr
  obtain ⟨y, _, rfl⟩ := hr
  exact hc y
 ·rw [hcs, Q0o hc, hl]
 ·rw [hcs, Q8t, List.getElem?_map, hx] at hv
  cases hv
  exact .p _
theorem Qqh {α : Type} {i : Int} : idx ([] : List α) i = none := by cases i <;> rfl
theorem Q58 {α : Type} {l : List α} {i : Int} {v : α} (h : idx l i = some v) : 0 ≤ i ∧ i < l.length ∧ l[i.toNat]? = some v := by
 cases i with
 | ofNat n =>
  simp only [idx] at h
  have := (List.getElem?_eq_some_iff.1 h).1
  exact ⟨Int.natCast_nonneg n, by show (n : Int) < l.length; omega, h⟩
 | negSucc n => cases h
theorem Qce {α : Type} {l : List α} {i : Int} {v : α} {n : Nat} (h : idx l i = some v) (hn : n = l.length) : (decide (0 ≤ i) && decide (i < (n : Int))) = true := by
 obtain ⟨h1, h2, _⟩ := Q58 h
 simp [h1, hn, h2]
theorem Qdf {T : Type} {c : T → List PV} {e : Nat} (hc : ∀ v, (c v).length = e) : ∀ (l : List T) (i : Nat) (v : T), l[i]? = some v → ∃ r, (Yk c l).drop (i * e) = (c v).map AV.p ++ r
 | [], i, v, h => by simp at h
 | u :: l, 0, v, h => by simp at h; subst h; exact ⟨Yk c l, by simp [Yk]⟩
 | u :: l, i + 1, v, h => by
  obtain ⟨r, hr⟩ := Qdf hc l i v (by simpa using h)
  refine ⟨r, ?_⟩
  have : (i + 1) * e = ((c u).map AV.p).length + i * e := by simp [hc, Nat.succ_mul]; omega
  rw [Yk, this, ← List.drop_drop, List.drop_left]; exact hr
theorem Qqq {T : Type} {c : T → List PV} {e : Nat} (hc : ∀ v, (c v).length = e) {l : List T} {i : Int} {v : T} (hv : idx l i = some v) {off n : Nat} {b : Bool} {k : AV → Prop} (hn : off + n ≤ e) {j : Nat} (hj : j = i.toNat * e + off)
  (h : Jf (EP P Gl) b ((((c v).drop off).take n).map AV.p) k) : Q6b j (Yk c l) (fun cs => Q7o (EP P Gl) n cs (fun cs => Jf (EP P Gl) b cs k)) := by
 subst hj
 obtain ⟨_, _, h3⟩ := Q58 hv
 obtain ⟨r, hr⟩ := Qdf hc l _ v h3
 have e1 : (Yk c l).drop (i.toNat * e + off) = ((c v).map AV.p).drop off ++ r := by
  rw [← List.drop_drop, hr, List.drop_append_of_le_length (by simp [hc]; omega)]
 rw [Uy, e1, Gi]
 have e2 : (((c v).map AV.p).drop off ++ r).take n = (((c v).drop off).take n).map AV.p := by
  rw [List.take_append_of_le_length (by simp [hc]; omega), ← List.map_drop, ← List.map_take]
 unfold G7
 rw [e2, if_pos (by simp [hc]; omega)]
 exact h
theorem Qlx {l : List Int} {n : Nat} (hn : n = l.length) {k : List UInt8 → Prop} (h : k (l.map fun n => UInt8.ofNat n.toNat)) : Q7o (EP P Gl) n (Yk (cI .u8) l) (fun cs => Q3l (EP P Gl) k cs) := by
 subst hn
 have h1 : (Yk (cI .u8) l).length = l.length := by rw [Q0o (e := 1) (fun _ => rfl)]; omega
 rw [Gi]
 unfold G7
 rw [List.take_of_length_le (by omega), if_pos h1]
 show Q3l (EP P Gl) k (Yk (cI .u8) l)
 rw [Q8x]
 have : ∀ l : List Int, Qi6 (Yk (cI .u8) l) = some (l.map fun n => UInt8.ofNat n.toNat) := by
  intro l
  induction l with
  | nil => simp [Yk, Qi6]
  | cons b l ih => simp [Yk, Qi6, ih]
 rw [this]; exact h
theorem Q7c {b : List UInt8} {k : List AV → Prop} (h : k (Yk (cI .u8) (b.map fun x => (x.toNat : Int)))) :
  @List.rec UInt8 (fun _ => Up hi9 ((List AV → Prop) → Prop)) (fun k => k []) (fun v _ ih k => ih fun r => k (AV.p (.int .u8 (v.toNat : Int)) :: r)) b k := by
 have e : ∀ b : List UInt8, Yk (cI .u8) (b.map fun x => (x.toNat : Int)) = b.map fun x => AV.p (.int .u8 (x.toNat : Int)) := by
  intro b
  induction b with
  | nil => rfl
  | cons x b ih => simp [Yk, cI]; simpa [cI] using ih
 rw [e] at h
 have := Wd (α := Prop) (fun x : UInt8 => AV.p (.int .u8 (x.toNat : Int))) b k
 show Q6r (fun x : UInt8 => AV.p (.int .u8 (x.toNat : Int))) b k
 rw [this]; exact h
theorem Qu7 {T : Type} {c : T → List PV} {n : Nat} {zero : List PV} (z : T) (hz : c z = zero) {k : List AV → Prop} (h : k (Yk c (List.replicate n z))) :
  Q6r AV.p (List.replicate n zero).flatten k := by
 rw [Wd]
 have e : ∀ n, Yk c (List.replicate n z) = (List.replicate n zero).flatten.map AV.p := by
  intro n
  induction n with
  | zero => rfl
  | succ n ih => simp [List.replicate_succ, Yk, ih, hz]
 rw [← e]; exact h
theorem Qe7 {T : Type} {c : T → List PV} {e : Nat} (hc : ∀ v, (c v).length = e) {l : List T} {i : Int} {v : T} (hv : idx l i = some v) {off n j m : Nat} (hj : j = i.toNat * e + off) (hm : m = n) (hn : off + n ≤ e) :
  (Nat.beq m n && Nat.ble (j + n) (Yk c l).length) = true := by
 obtain ⟨_, h2, _⟩ := Q58 hv
 have h3 : i.toNat + 1 ≤ l.length := by omega
 have := Nat.mul_le_mul_right e h3
 rw [Q0o hc, hm, hj]
 simp only [Nat.beq_refl, Bool.true_and, Nat.ble_eq]
 rw [Nat.succ_mul] at this
 omega
theorem Qhz {T : Type} {c : T → List PV} {e : Nat} (hc : ∀ v, (c v).length = e) : ∀ (l : List T) (i : Nat) (v v' : T) (off : Nat) (new : List AV), l[i]? = some v →
  (c v').map AV.p = ((c v).map AV.p).take off ++ (new ++ ((c v).map AV.p).drop (off + new.length)) → off + new.length ≤ e →
  Yk c (l.set i v') = (Yk c l).take (i * e + off) ++ (new ++ (Yk c l).drop (i * e + off + new.length))
 | [], i, v, v', off, new, h, _, _ => by simp at h
 | u :: l, 0, v, v', off, new, h, hn, hl => by
  simp at h; subst h
  have h1 : ((c u).map AV.p).length = e := by simp [hc]
  simp only [List.set_cons_zero, Yk, Nat.zero_mul, Nat.zero_add]
  rw [List.take_append_of_le_length (by omega), List.drop_append_of_le_length (by omega), hn]
  simp
 | u :: l, i + 1, v, v', off, new, h, hn, hl => by
  have h1 : ((c u).map AV.p).length = e := by simp [hc]
  have ih := Qhz hc l i v v' off new (by simpa using h) hn hl
  have e1 : (i + 1) * e + off = ((c u).map AV.p).length + (i * e + off) := by rw [h1, Nat.succ_mul]; omega
  simp only [List.set_cons_succ, Yk]
  rw [e1, Nat.add_assoc, List.take_length_add_append, List.drop_length_add_append, ih]
  simp
theorem Qdn {T : Type} {c : T → List PV} {e : Nat} (hc : ∀ v, (c v).length = e) {l : List T} {i : Int} {v : T} (hv : idx l i = some v) (v' : T) {off j : Nat} {new : List AV} (hj : j = i.toNat * e + off)
  (hnew : (c v').map AV.p = ((c v).map AV.p).take off ++ (new ++ ((c v).map AV.p).drop (off + new.length))) (hlen : off + new.length ≤ e) {k : List AV → Prop} (h : k (Yk c (l.set i.toNat v'))) : Q2o (Yk c l) j new k := by
 obtain ⟨_, _, h3⟩ := Q58 hv
 rw [Q14, Uq, hj, ← Qhz hc l i.toNat v v' off new h3 hnew hlen]
 exact h
theorem Qk8 {T : Type} {c : T → List PV} {e : Nat} (hc : ∀ v, (c v).length = e) {cs : List PV} {l : List T} (hl : cs = (G2 c l).flatten) {i : Int} {v : T} (hv : idx l i = some v) {off n : Nat} {b : Bool} {k : AV → Prop} (hn : off + n ≤ e) {j : Nat} (hj : j = i.toNat * e + off)
  (h : Jf (EP P Gl) b ((((c v).drop off).take n).map AV.p) k) : Q6b j cs (fun cs => Q6r AV.p cs (fun cs => Q7o (EP P Gl) n cs (fun cs => Jf (EP P Gl) b cs k))) := by
 have h1 := Qqq hc hv hn hj h
 rw [Q8t, ← hl, Uy] at h1
 rw [Uy, Wd, List.map_drop]
 exact h1
theorem Qoi {T : Type} {c : T → List PV} (hc : ∀ v, (c v).length = 1) {l : List T} {n : Nat} (hn : n = l.length) (h : Nat.ble 1 n = true) : (Nat.beq 1 1 && (Nat.ble (0 + n) (Yk c l).length && Nat.ble 1 n)) = true := by
 rw [h, Q0o hc, hn]; simp
theorem Qqu {T : Type} {c : T → List PV} (hc : ∀ v, (c v).length = 1) {l new : List T} {len : Nat} {k : Nat → List AV → Prop} (h : k (new.take len).length (Yk c (new.take len ++ l.drop (new.take len).length))) :
  Q7s len (Yk c new) (Yk c l) 0 k := by
 have dr : ∀ (l : List T) n, (Yk c l).drop n = Yk c (l.drop n) := by
  intro l
  induction l with
  | nil => intro n; simp [Yk]
  | cons v l ih =>
   intro n
   cases n with
   | zero => rfl
   | succ n =>
    have h1 : ((c v).map AV.p).length = 1 := by simp [hc]
    rw [Yk, List.drop_succ_cons, ← ih n, show n + 1 = ((c v).map AV.p).length + n by omega, ← List.drop_drop, List.drop_left]
 have tk : ∀ (l : List T) n, (Yk c l).take n = Yk c (l.take n) := by
  intro l
  induction l with
  | nil => intro n; simp [Yk]
  | cons v l ih =>
   intro n
   cases n with
   | zero => rfl
   | succ n =>
    have h1 : ((c v).map AV.p).length = 1 := by simp [hc]
    rw [Yk, List.take_succ_cons, Yk, ← ih n, show n + 1 = ((c v).map AV.p).length + n by omega, List.take_length_add_append]
 unfold Q7s
 rw [Q3o, Q9a, Q14, Uq, tk, Q0o hc, Nat.mul_one, Nat.zero_add, dr, List.take_zero, List.nil_append, ← Qgx]
 exact h
theorem Qrk {len off : Nat} {new cs : List AV} {k : Nat → List AV → Prop} (h : Qgh len new fun new => Qt8 new fun n => Q2o cs off new fun cs => k n cs) : Q7s len new cs off k := h
theorem Qxp {s : List UInt8} : s = [] ++ s.drop 0 := rfl
theorem Qpa {s l : List UInt8} {n : Nat} (h : s = l ++ s.drop n) {y : UInt8} (hy : idx s (n : Int) = some y) : s = (l ++ [y]) ++ s.drop (n + 1) := by
 have h1 : s[n]? = some y := hy
 have : s.drop n = y :: s.drop (n + 1) := by
  obtain ⟨h2, h3⟩ := List.getElem?_eq_some_iff.1 h1
  rw [List.drop_eq_getElem_cons h2, h3]
 rw [List.append_assoc]
 rw [this] at h
 exact h
theorem Qsu {s l r : List UInt8} (e : s = l ++ r) {k : List AV → Prop} (h : k ((l.map fun x => AV.p (.int .u8 (x.toNat : Int))) ++ r.map fun x => AV.p (.int .u8 (x.toNat : Int)))) :
  @List.rec UInt8 (fun _ => Up hi9 ((List AV → Prop) → Prop)) (fun k => k []) (fun v _ ih k => ih fun r => k (AV.p (.int .u8 (v.toNat : Int)) :: r)) s k := by
 rw [← List.map_append, ← e] at h
 show Q6r (fun x : UInt8 => AV.p (.int .u8 (x.toNat : Int))) s k
 rw [Wd]; exact h
end
end
end Go.Av
