/- Part of the proof of CrossBack: for every input the law returns true; no condition. -/
import Derived.Test.YthdffmbnmkmhlaaGreatDoorAvTac
import Derived.Test.YthdffmbnmkmhlaaGreatDoorAvJoin
namespace Go.Av
noncomputable section
section
variable {P : Program} {Gl : Nat → Option (List PV)}
def Q0j {T : Type} (c : T → List PV) : List T → List AV
 | [] => []
 | v :: l => (c v).map AV.p ++ Q0j c l
theorem Qxr {T : Type} (c : T → List PV) (l m : List T) : Q0j c (l ++ m) = Q0j c l ++ Q0j c m := by
 induction l with
 | nil => rfl
 | cons v l ih => simp [Q0j, ih]
theorem Q7z {T : Type} {c : T → List PV} {e : Nat} (hc : ∀ v, (c v).length = e) (l : List T) : (Q0j c l).length = l.length * e := by
 induction l with
 | nil => simp [Q0j]
 | cons v l ih => simp [Q0j, ih, hc, Nat.succ_mul]; omega
theorem Qe1 {T : Type} (c : T → List PV) (l : List T) : Q0j c l = (Qd c l).flatten.map AV.p := by
 induction l with
 | nil => rfl
 | cons v l ih => simp [Q0j, ih, Qd]
theorem Q8p {T : Type} {c : T → List PV} {l : List T} {new : List AV} (vs : List T) {k : List AV → Prop} (e : new = Q0j c vs) (h : k (Q0j c (l ++ vs))) : Qk9 (Q0j c l) new k := by
 rw [Q1n, e, ← Qxr]; exact h
theorem Q4p {T : Type} {c : T → List PV} {e : Nat} (hc : ∀ v, (c v).length = e) {l : List T} {g : Bool} {n : Nat} (hn : n = l.length) (h : g = true) : (Nat.beq e e && (Nat.beq (0 + n * e) (Q0j c l).length && g)) = true := by
 rw [h, Q7z hc, hn]; simp
theorem Qd6 {T : Type} (c : T → List PV) (l : List T) (n : Nat) : Q0w n (.cells (Q0j c l)) = true := by
 have : ∀ ps : List PV, refsLt.refsLts n (ps.map AV.p) = true := by
  intro ps
  induction ps with
  | nil => rfl
  | cons p ps ih => simp [refsLt.refsLts, refsLt, ih]
 rw [Qe1]; exact this _
theorem Qsu {T : Type} (ρ : Nat → Nat) (c : T → List PV) (l : List T) : Qlz ρ (.cells (Q0j c l)) = .cells (Q0j c l) := by
 have : ∀ ps : List PV, Qcw ρ (ps.map AV.p) = ps.map AV.p := by
  intro ps
  induction ps with
  | nil => rfl
  | cons p ps ih => simp [Qcw, Q5b, ih]
 simp only [Qlz, Qe1, this]
theorem hO {T : Type} {c : T → List PV} {l : List T} {ρ : Nat → Nat} {K : Nat → Prop} {H : List AObj} {i : Nat} {r : List AObj} (e : H[ρ i]? = some (.cells (Q0j c l))) (h : Qcy ρ K H (i + 1) r) : Qcy ρ K H i (.cells (Q0j c l) :: r) :=
 hE (by rw [Qsu]; exact e) h
theorem roN {f : AObj → Bool} : ([] : List AObj).all f = true := rfl
theorem roE {f : AObj → Bool} {o : AObj} {r : List AObj} (h : f o = true) (t : r.all f = true) : (o :: r).all f = true := by simp [h, t]
def rho (l : List Nat) (i : Nat) : Nat := l.getD i i
theorem frz_own {T : Type} {c : T → List PV} {e : Nat} (hc : ∀ v, (c v).length = e) {K : Nat → Prop} {H : List AObj} {a n : Nat} {l : List T} (ho : H[a]? = some (.cells (Q0j c l))) (hk : K a) (hn : n = l.length) :
  Frz K H (.slice e a 0 n) (.slice e (Qd c l)) := by
 subst hn
 have hl : (Qd c l).flatten.length = l.length * e := by
  have := Q7z hc l;rw [Qe1, Mh] at this; exact this
 have hcs : ((Q0j c l).drop 0).take (l.length * e) = Q0j c l := by
  rw [Mj]; exact Lw (by rw [Q7z hc]; exact Lk _)
 refine .slice e a 0 l.length (Q0j c l) (Qd c l) hk ho (Q5 c l) (fun r hr => ?_) ?_ (fun i v x hv hx => ?_)
 ·simp only [Qd, Mw] at hr;obtain ⟨y, _, rfl⟩ := hr;exact hc y
 ·rw [hcs, Q7z hc, hl]
 rw [hcs, Qe1, Ll, hx] at hv;cases hv;exact .p _
theorem Q7f {α : Type} {i : Int} : idx ([] : List α) i = none := by cases i <;> rfl
theorem Qam {α : Type} {l : List α} {i : Int} {v : α} (h : idx l i = some v) : 0 ≤ i ∧ i < l.length ∧ l[i.toNat]? = some v := by
 cases i with
 | ofNat n =>
  simp only [idx] at h;have := (Ld.1 h).1;exact ⟨Int.natCast_nonneg n, by show (n : Int) < l.length; omega, h⟩
 | negSucc n => cases h
theorem Qit {α : Type} {l : List α} {i : Int} {v : α} {n : Nat} (h : idx l i = some v) (hn : n = l.length) : (decide (0 ≤ i) && decide (i < (n : Int))) = true := by
 obtain ⟨h1, h2, _⟩ := Qam h;simp [h1, hn, h2]
theorem Qjt {T : Type} {c : T → List PV} {e : Nat} (hc : ∀ v, (c v).length = e) : ∀ (l : List T) (i : Nat) (v : T), l[i]? = some v → ∃ r, (Q0j c l).drop (i * e) = (c v).map AV.p ++ r
 | [], i, v, h => by simp at h
 | u :: l, 0, v, h => by simp at h; subst h; exact ⟨Q0j c l, by simp [Q0j]⟩
 | u :: l, i + 1, v, h => by
  obtain ⟨r, hr⟩ := Qjt hc l i v (by simpa using h);refine ⟨r, ?_⟩
  have : (i + 1) * e = ((c u).map AV.p).length + i * e := by simp [hc, Nat.succ_mul]; omega
  rw [Q0j, this, ← Nd, Dp]; exact hr
theorem Q3m {T : Type} {c : T → List PV} {e : Nat} (hc : ∀ v, (c v).length = e) {l : List T} {i : Int} {v : T} (hv : idx l i = some v) {off n : Nat} {b : Bool} {k : AV → Prop} (hn : off + n ≤ e) {j : Nat} (hj : j = i.toNat * e + off)
  (h : Gr (EP P Gl) b ((((c v).drop off).take n).map AV.p) k) : Qbh j (Q0j c l) (fun cs => Qcu (EP P Gl) n cs (fun cs => Gr (EP P Gl) b cs k)) := by
 subst hj;obtain ⟨_, _, h3⟩ := Qam hv;obtain ⟨r, hr⟩ := Qjt hc l _ v h3
 have e1 : (Q0j c l).drop (i.toNat * e + off) = ((c v).map AV.p).drop off ++ r := by
  rw [← Nd, hr, Cs (by simp [hc]; omega)]
 rw [Q0r, e1, Q3b]
 have e2 : (((c v).map AV.p).drop off ++ r).take n = (((c v).drop off).take n).map AV.p := by
  rw [Bc (by simp [hc]; omega), ← List.map_drop, ← List.map_take]
 unfold Q32;rw [e2, if_pos (by simp [hc]; omega)];exact h
theorem Qyr {l : List Int} {n : Nat} (hn : n = l.length) {k : List UInt8 → Prop} (h : k (l.map fun n => UInt8.ofNat n.toNat)) : Qcu (EP P Gl) n (Q0j (cI .u8) l) (fun cs => Q86 (EP P Gl) k cs) := by
 subst hn
 have h1 : (Q0j (cI .u8) l).length = l.length := by rw [Q7z (e := 1) (fun _ => rfl)]; omega
 rw [Q3b];unfold Q32;rw [Lw (by omega), if_pos h1];show Q86 (EP P Gl) k (Q0j (cI .u8) l);rw [Qdh]
 have : ∀ l : List Int, Qo2 (Q0j (cI .u8) l) = some (l.map fun n => UInt8.ofNat n.toNat) := by
  intro l
  induction l with
  | nil => simp [Q0j, Qo2]
  | cons b l ih => simp [Q0j, Qo2, ih]
 rw [this]; exact h
theorem Z5g {T : Type} {c : T → List PV} {n : Nat} {zero : List PV} (z : T) (hz : c z = zero) {k : List AV → Prop} (h : k (Q0j c (List.replicate n z))) :
  Qb9 AV.p (List.replicate n zero).flatten k := by
 rw [U9]
 have e : ∀ n, Q0j c (List.replicate n z) = (List.replicate n zero).flatten.map AV.p := by
  intro n
  induction n with
  | zero => rfl
  | succ n ih => simp [List.replicate_succ, Q0j, ih, hz]
 rw [← e]; exact h
theorem Qd7 {T : Type} {c : T → List PV} {e : Nat} (hc : ∀ v, (c v).length = e) {l : List T} {i : Int} {v : T} (hv : idx l i = some v) {off n j m : Nat} (hj : j = i.toNat * e + off) (hm : m = n) (hn : off + n ≤ e) :
  (Nat.beq m n && Nat.ble (j + n) (Q0j c l).length) = true := by
 obtain ⟨_, h2, _⟩ := Qam hv
 have h3 : i.toNat + 1 ≤ l.length := by omega
 have := Bg e h3;rw [Q7z hc, hm, hj];simp only [Dg, Mo, Mu];rw [Ny] at this;omega
theorem Qpd {T : Type} {c : T → List PV} {e : Nat} (hc : ∀ v, (c v).length = e) : ∀ (l : List T) (i : Nat) (v v' : T) (off : Nat) (new : List AV), l[i]? = some v →
  (c v').map AV.p = ((c v).map AV.p).take off ++ (new ++ ((c v).map AV.p).drop (off + new.length)) → off + new.length ≤ e →
  Q0j c (l.set i v') = (Q0j c l).take (i * e + off) ++ (new ++ (Q0j c l).drop (i * e + off + new.length))
 | [], i, v, v', off, new, h, _, _ => by simp at h
 | u :: l, 0, v, v', off, new, h, hn, hl => by
  simp at h; subst h
  have h1 : ((c u).map AV.p).length = e := by simp [hc]
  simp only [List.set_cons_zero, Q0j, Dd, Mm];rw [Bc (by omega), Cs (by omega), hn];simp
 | u :: l, i + 1, v, v', off, new, h, hn, hl => by
  have h1 : ((c u).map AV.p).length = e := by simp [hc]
  have ih := Qpd hc l i v v' off new (by simpa using h) hn hl
  have e1 : (i + 1) * e + off = ((c u).map AV.p).length + (i * e + off) := by rw [h1, Ny]; omega
  simp only [List.set_cons_succ, Q0j];rw [e1, Np, List.take_length_add_append, List.drop_length_add_append, ih];simp
theorem Qf2 {T : Type} {c : T → List PV} {e : Nat} (hc : ∀ v, (c v).length = e) {l : List T} {i : Int} {v : T} (hv : idx l i = some v) (v' : T) {off j : Nat} {new : List AV} (hj : j = i.toNat * e + off)
  (hnew : (c v').map AV.p = ((c v).map AV.p).take off ++ (new ++ ((c v).map AV.p).drop (off + new.length))) (hlen : off + new.length ≤ e) {k : List AV → Prop} (h : k (Q0j c (l.set i.toNat v'))) : Q9k (Q0j c l) j new k := by
 obtain ⟨_, _, h3⟩ := Qam hv;rw [Q8b, Q0t, hj, ← Qpd hc l i.toNat v v' off new h3 hnew hlen];exact h
theorem Qrh {T : Type} {c : T → List PV} {e : Nat} (hc : ∀ v, (c v).length = e) {cs : List PV} {l : List T} (hl : cs = (Qd c l).flatten) {i : Int} {v : T} (hv : idx l i = some v) {off n : Nat} {b : Bool} {k : AV → Prop} (hn : off + n ≤ e) {j : Nat} (hj : j = i.toNat * e + off)
  (h : Gr (EP P Gl) b ((((c v).drop off).take n).map AV.p) k) : Qbh j cs (fun cs => Qb9 AV.p cs (fun cs => Qcu (EP P Gl) n cs (fun cs => Gr (EP P Gl) b cs k))) := by
 have h1 := Q3m hc hv hn hj h;rw [Qe1, ← hl, Q0r] at h1;rw [Q0r, U9, List.map_drop];exact h1
end
end
end Go.Av
