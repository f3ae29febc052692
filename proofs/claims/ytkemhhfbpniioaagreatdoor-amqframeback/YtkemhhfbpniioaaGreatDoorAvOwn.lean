/- An abstract machine for the modelled code, and what its runs say of real calls. Part of a proof of a given statement: for every input the law returns true and the arguments read as before; no condition beyond the given row. -/
import Derived.Test.YtkemhhfbpniioaaGreatDoorAvLift
import Derived.Test.YtkemhhfbpniioaaGreatDoorAvJoin
namespace Go.Av
noncomputable section
section
variable {P : Program} {Gl : Nat → Option (List PV)}
def Yk {T : Type} (c : T → List PV) : List T → List AV
 | [] => []
 | v :: l => (c v).map AV.p ++ Yk c l
theorem Qfr {T : Type} (c : T → List PV) (l m : List T) : Yk c (l ++ m) = Yk c l ++ Yk c m := by
 induction l with
 | nil => rfl
 | cons v l ih => simp [Yk, ih]
theorem Gx {T : Type} {c : T → List PV} {e : Nat} (hc : ∀ v, (c v).length = e) (l : List T) : (Yk c l).length = l.length * e := by
 induction l with
 | nil => simp [Yk]
 | cons v l ih => simp [Yk, ih, hc, Nat.succ_mul]; omega
theorem Q7v {T : Type} (c : T → List PV) (l : List T) : Yk c l = (Jh c l).flatten.map AV.p := by
 induction l with
 | nil => rfl
 | cons v l ih => simp [Yk, ih, Jh]
theorem Vd {T : Type} {c : T → List PV} {l : List T} {new : List AV} (vs : List T) {k : List AV → Prop} (e : new = Yk c vs) (h : k (Yk c (l ++ vs))) : Qdb (Yk c l) new k := by
 rw [J3, e, ← Qfr]; exact h
theorem Xv {T : Type} {c : T → List PV} {e : Nat} (hc : ∀ v, (c v).length = e) {l : List T} {g : Bool} {n : Nat} (hn : n = l.length) (h : g = true) : (Nat.beq e e && (Nat.beq (0 + n * e) (Yk c l).length && g)) = true := by
 rw [h, Gx hc, hn]; simp
theorem Qa {T : Type} (c : T → List PV) (l : List T) (n : Nat) : Jm n (.cells (Yk c l)) = true := by
 have : ∀ ps : List PV, refsLt.refsLts n (ps.map AV.p) = true := by
  intro ps
  induction ps with
  | nil => rfl
  | cons p ps ih => simp [refsLt.refsLts, refsLt, ih]
 rw [Q7v]; exact this _
theorem Qjw {T : Type} (ρ : Nat → Nat) (c : T → List PV) (l : List T) : Qnn ρ (.cells (Yk c l)) = .cells (Yk c l) := by
 have : ∀ ps : List PV, Q8u ρ (ps.map AV.p) = ps.map AV.p := by
  intro ps
  induction ps with
  | nil => rfl
  | cons p ps ih => simp [Q8u, Q27, ih]
 simp only [Qnn, Q7v, this]
theorem hO {T : Type} {c : T → List PV} {l : List T} {ρ : Nat → Nat} {K : Nat → Prop} {H : List AObj} {i : Nat} {r : List AObj} (e : H[ρ i]? = some (.cells (Yk c l))) (h : Q8w ρ K H (i + 1) r) : Q8w ρ K H i (.cells (Yk c l) :: r) :=
 hE (by rw [Qjw]; exact e) h
theorem roN {f : AObj → Bool} : ([] : List AObj).all f = true := rfl
theorem roE {f : AObj → Bool} {o : AObj} {r : List AObj} (h : f o = true) (t : r.all f = true) : (o :: r).all f = true := by simp [h, t]
def rho (l : List Nat) (i : Nat) : Nat := l.getD i i
theorem frz_own {T : Type} {c : T → List PV} {e : Nat} (hc : ∀ v, (c v).length = e) {K : Nat → Prop} {H : List AObj} {a n : Nat} {l : List T} (ho : H[a]? = some (.cells (Yk c l))) (hk : K a) (hn : n = l.length) :
  Frz K H (.slice e a 0 n) (.slice e (Jh c l)) := by
 subst hn
 have hl : (Jh c l).flatten.length = l.length * e := by
  have := Gx hc l
  rw [Q7v, List.length_map] at this; exact this
 have hcs : ((Yk c l).drop 0).take (l.length * e) = Yk c l := by
  rw [List.drop_zero]; exact List.take_of_length_le (by rw [Gx hc]; exact Nat.le_refl _)
 refine .slice e a 0 l.length (Yk c l) (Jh c l) hk ho (Jj c l) (fun r hr => ?_) ?_ (fun i v x hv hx => ?_)
 ·simp only [Jh, List.mem_map] at hr
  obtain ⟨y, _, rfl⟩ := hr
  exact hc y
 ·rw [hcs, Gx hc, hl]
 ·rw [hcs, Q7v, List.getElem?_map, hx] at hv
  cases hv
  exact .p _
theorem Qoo {α : Type} {i : Int} : idx ([] : List α) i = none := by cases i <;> rfl
theorem Q4e {α : Type} {l : List α} {i : Int} {v : α} (h : idx l i = some v) : 0 ≤ i ∧ i < l.length ∧ l[i.toNat]? = some v := by
 cases i with
 | ofNat n =>
  simp only [idx] at h
  have := (List.getElem?_eq_some_iff.1 h).1
  exact ⟨Int.natCast_nonneg n, by show (n : Int) < l.length; omega, h⟩
 | negSucc n => cases h
theorem Qeq {α : Type} {l : List α} {i : Int} {v : α} {n : Nat} (h : idx l i = some v) (hn : n = l.length) : (decide (0 ≤ i) && decide (i < (n : Int))) = true := by
 obtain ⟨h1, h2, _⟩ := Q4e h
 simp [h1, hn, h2]
theorem Qdm {T : Type} {c : T → List PV} {e : Nat} (hc : ∀ v, (c v).length = e) : ∀ (l : List T) (i : Nat) (v : T), l[i]? = some v → ∃ r, (Yk c l).drop (i * e) = (c v).map AV.p ++ r
 | [], i, v, h => by simp at h
 | u :: l, 0, v, h => by simp at h; subst h; exact ⟨Yk c l, by simp [Yk]⟩
 | u :: l, i + 1, v, h => by
  obtain ⟨r, hr⟩ := Qdm hc l i v (by simpa using h)
  refine ⟨r, ?_⟩
  have : (i + 1) * e = ((c u).map AV.p).length + i * e := by simp [hc, Nat.succ_mul]; omega
  rw [Yk, this, ← List.drop_drop, List.drop_left]; exact hr
theorem Qpl {T : Type} {c : T → List PV} {e : Nat} (hc : ∀ v, (c v).length = e) {l : List T} {i : Int} {v : T} (hv : idx l i = some v) {off n : Nat} {b : Bool} {k : AV → Prop} (hn : off + n ≤ e) {j : Nat} (hj : j = i.toNat * e + off)
  (h : J0 (EP P Gl) b ((((c v).drop off).take n).map AV.p) k) : Q5i j (Yk c l) (fun cs => Q6h (EP P Gl) n cs (fun cs => J0 (EP P Gl) b cs k)) := by
 subst hj
 obtain ⟨_, _, h3⟩ := Q4e hv
 obtain ⟨r, hr⟩ := Qdm hc l _ v h3
 have e1 : (Yk c l).drop (i.toNat * e + off) = ((c v).map AV.p).drop off ++ r := by
  rw [← List.drop_drop, hr, List.drop_append_of_le_length (by simp [hc]; omega)]
 rw [Ue, e1, Jv]
 have e2 : (((c v).map AV.p).drop off ++ r).take n = (((c v).drop off).take n).map AV.p := by
  rw [List.take_append_of_le_length (by simp [hc]; omega), ← List.map_drop, ← List.map_take]
 unfold Jl
 rw [e2, if_pos (by simp [hc]; omega)]
 exact h
theorem Qky {l : List Int} {n : Nat} (hn : n = l.length) {k : List UInt8 → Prop} (h : k (l.map fun n => UInt8.ofNat n.toNat)) : Q6h (EP P Gl) n (Yk (cI .u8) l) (fun cs => Q2s (EP P Gl) k cs) := by
 subst hn
 have h1 : (Yk (cI .u8) l).length = l.length := by rw [Gx (e := 1) (fun _ => rfl)]; omega
 rw [Jv]
 unfold Jl
 rw [List.take_of_length_le (by omega), if_pos h1]
 show Q2s (EP P Gl) k (Yk (cI .u8) l)
 rw [Q80]
 have : ∀ l : List Int, Qfz (Yk (cI .u8) l) = some (l.map fun n => UInt8.ofNat n.toNat) := by
  intro l
  induction l with
  | nil => simp [Yk, Qfz]
  | cons b l ih => simp [Yk, Qfz, ih]
 rw [this]; exact h
theorem Q62 {b : List UInt8} {k : List AV → Prop} (h : k (Yk (cI .u8) (b.map fun x => (x.toNat : Int)))) :
  @List.rec UInt8 (fun _ => Up hi9 ((List AV → Prop) → Prop)) (fun k => k []) (fun v _ ih k => ih fun r => k (AV.p (.int .u8 (v.toNat : Int)) :: r)) b k := by
 have e : ∀ b : List UInt8, Yk (cI .u8) (b.map fun x => (x.toNat : Int)) = b.map fun x => AV.p (.int .u8 (x.toNat : Int)) := by
  intro b
  induction b with
  | nil => rfl
  | cons x b ih => simp [Yk, cI]; simpa [cI] using ih
 rw [e] at h
 have := Xw (α := Prop) (fun x : UInt8 => AV.p (.int .u8 (x.toNat : Int))) b k
 show Q58 (fun x : UInt8 => AV.p (.int .u8 (x.toNat : Int))) b k
 rw [this]; exact h
theorem Qs9 {T : Type} {c : T → List PV} {n : Nat} {zero : List PV} (z : T) (hz : c z = zero) {k : List AV → Prop} (h : k (Yk c (List.replicate n z))) :
  Q58 AV.p (List.replicate n zero).flatten k := by
 rw [Xw]
 have e : ∀ n, Yk c (List.replicate n z) = (List.replicate n zero).flatten.map AV.p := by
  intro n
  induction n with
  | zero => rfl
  | succ n ih => simp [List.replicate_succ, Yk, ih, hz]
 rw [← e]; exact h
theorem Qkv {T : Type} {c : T → List PV} {e : Nat} (hc : ∀ v, (c v).length = e) {l : List T} {i : Int} {v : T} (hv : idx l i = some v) {off n j m : Nat} (hj : j = i.toNat * e + off) (hm : m = n) (hn : off + n ≤ e) :
  (Nat.beq m n && Nat.ble (j + n) (Yk c l).length) = true := by
 obtain ⟨_, h2, _⟩ := Q4e hv
 have h3 : i.toNat + 1 ≤ l.length := by omega
 have := Nat.mul_le_mul_right e h3
 rw [Gx hc, hm, hj]
 simp only [Nat.beq_refl, Bool.true_and, Nat.ble_eq]
 rw [Nat.succ_mul] at this
 omega
theorem Qg7 {T : Type} {c : T → List PV} {e : Nat} (hc : ∀ v, (c v).length = e) : ∀ (l : List T) (i : Nat) (v v' : T) (off : Nat) (new : List AV), l[i]? = some v →
  (c v').map AV.p = ((c v).map AV.p).take off ++ (new ++ ((c v).map AV.p).drop (off + new.length)) → off + new.length ≤ e →
  Yk c (l.set i v') = (Yk c l).take (i * e + off) ++ (new ++ (Yk c l).drop (i * e + off + new.length))
 | [], i, v, v', off, new, h, _, _ => by simp at h
 | u :: l, 0, v, v', off, new, h, hn, hl => by
  simp at h; subst h
  have h1 : ((c u).map AV.p).length = e := by simp [hc]
  simp only [List.set_cons_zero, Yk, Nat.zero_mul, Nat.zero_add]
  rw [List.take_append_of_le_length (by omega), List.drop_append_of_le_length (by omega), hn]
  simp
 | u :: l, i + 1, v, v', off, new, h, hn, hl => by
  have h1 : ((c u).map AV.p).length = e := by simp [hc]
  have ih := Qg7 hc l i v v' off new (by simpa using h) hn hl
  have e1 : (i + 1) * e + off = ((c u).map AV.p).length + (i * e + off) := by rw [h1, Nat.succ_mul]; omega
  simp only [List.set_cons_succ, Yk]
  rw [e1, Nat.add_assoc, List.take_length_add_append, List.drop_length_add_append, ih]
  simp
theorem Qk3 {T : Type} {c : T → List PV} {e : Nat} (hc : ∀ v, (c v).length = e) {l : List T} {i : Int} {v : T} (hv : idx l i = some v) (v' : T) {off j : Nat} {new : List AV} (hj : j = i.toNat * e + off)
  (hnew : (c v').map AV.p = ((c v).map AV.p).take off ++ (new ++ ((c v).map AV.p).drop (off + new.length))) (hlen : off + new.length ≤ e) {k : List AV → Prop} (h : k (Yk c (l.set i.toNat v'))) : Q24 (Yk c l) j new k := by
 obtain ⟨_, _, h3⟩ := Q4e hv
 rw [Q0d, U6, hj, ← Qg7 hc l i.toNat v v' off new h3 hnew hlen]
 exact h
theorem Qkw {T : Type} {c : T → List PV} {e : Nat} (hc : ∀ v, (c v).length = e) {cs : List PV} {l : List T} (hl : cs = (Jh c l).flatten) {i : Int} {v : T} (hv : idx l i = some v) {off n : Nat} {b : Bool} {k : AV → Prop} (hn : off + n ≤ e) {j : Nat} (hj : j = i.toNat * e + off)
  (h : J0 (EP P Gl) b ((((c v).drop off).take n).map AV.p) k) : Q5i j cs (fun cs => Q58 AV.p cs (fun cs => Q6h (EP P Gl) n cs (fun cs => J0 (EP P Gl) b cs k))) := by
 have h1 := Qpl hc hv hn hj h
 rw [Q7v, ← hl, Ue] at h1
 rw [Ue, Xw, List.map_drop]
 exact h1
theorem Qlq {T : Type} {c : T → List PV} (hc : ∀ v, (c v).length = 1) {l : List T} {n : Nat} (hn : n = l.length) (h : Nat.ble 1 n = true) : (Nat.beq 1 1 && (Nat.ble (0 + n) (Yk c l).length && Nat.ble 1 n)) = true := by
 rw [h, Gx hc, hn]; simp
theorem Qq7 {T : Type} {c : T → List PV} (hc : ∀ v, (c v).length = 1) {l new : List T} {len : Nat} {k : Nat → List AV → Prop} (h : k (new.take len).length (Yk c (new.take len ++ l.drop (new.take len).length))) :
  Q6k len (Yk c new) (Yk c l) 0 k := by
 have dr : ∀ (l : List T) n, (Yk c l).drop n = Yk c (l.drop n) := by
  intro l
  induction l with
  | nil => intro n; simp [Yk]
  | cons v l ih =>
   intro n
   cases n with
   | zero => rfl
   | succ n =>
    have h1 : ((c v).map AV.p).length = 1 := by simp [hc]
    rw [Yk, List.drop_succ_cons, ← ih n, show n + 1 = ((c v).map AV.p).length + n by omega, ← List.drop_drop, List.drop_left]
 have tk : ∀ (l : List T) n, (Yk c l).take n = Yk c (l.take n) := by
  intro l
  induction l with
  | nil => intro n; simp [Yk]
  | cons v l ih =>
   intro n
   cases n with
   | zero => rfl
   | succ n =>
    have h1 : ((c v).map AV.p).length = 1 := by simp [hc]
    rw [Yk, List.take_succ_cons, Yk, ← ih n, show n + 1 = ((c v).map AV.p).length + n by omega, List.take_length_add_append]
 unfold Q6k
 rw [Q2p, Q70, Q0d, U6, tk, Gx hc, Nat.mul_one, Nat.zero_add, dr, List.take_zero, List.nil_append, ← Qfr]
 exact h
theorem Qpa {len off : Nat} {new cs : List AV} {k : Nat → List AV → Prop} (h : Qeh len new fun new => Qre new fun n => Q24 cs off new fun cs => k n cs) : Q6k len new cs off k := h
theorem Qwc {s : List UInt8} : s = [] ++ s.drop 0 := rfl
theorem Qoi {s l : List UInt8} {n : Nat} (h : s = l ++ s.drop n) {y : UInt8} (hy : idx s (n : Int) = some y) : s = (l ++ [y]) ++ s.drop (n + 1) := by
 have h1 : s[n]? = some y := hy
 have : s.drop n = y :: s.drop (n + 1) := by
  obtain ⟨h2, h3⟩ := List.getElem?_eq_some_iff.1 h1
  rw [List.drop_eq_getElem_cons h2, h3]
 rw [List.append_assoc]
 rw [this] at h
 exact h
theorem Qr5 {s l r : List UInt8} (e : s = l ++ r) {k : List AV → Prop} (h : k ((l.map fun x => AV.p (.int .u8 (x.toNat : Int))) ++ r.map fun x => AV.p (.int .u8 (x.toNat : Int)))) :
  @List.rec UInt8 (fun _ => Up hi9 ((List AV → Prop) → Prop)) (fun k => k []) (fun v _ ih k => ih fun r => k (AV.p (.int .u8 (v.toNat : Int)) :: r)) s k := by
 rw [← List.map_append, ← e] at h
 show Q58 (fun x : UInt8 => AV.p (.int .u8 (x.toNat : Int))) s k
 rw [Xw]; exact h
end
end
end Go.Av
