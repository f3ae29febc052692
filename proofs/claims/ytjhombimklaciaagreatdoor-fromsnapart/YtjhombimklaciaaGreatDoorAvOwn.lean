/- Part of the proof of FromsnApart: for every input the law returns true; no condition. -/
import Derived.Test.YtjhombimklaciaaGreatDoorAvTac
import Derived.Test.YtjhombimklaciaaGreatDoorAvJoin
namespace Go.Av
noncomputable section
section
variable {P : Program} {Gl : Nat → Option (List PV)}
def Zz {T : Type} (c : T → List PV) : List T → List AV
 | [] => []
 | v :: l => (c v).map AV.p ++ Zz c l
theorem Qge {T : Type} (c : T → List PV) (l m : List T) : Zz c (l ++ m) = Zz c l ++ Zz c m := by
 induction l with
 | nil => rfl
 | cons v l ih => simp [Zz, ih]
theorem Q0b {T : Type} {c : T → List PV} {e : Nat} (hc : ∀ v, (c v).length = e) (l : List T) : (Zz c l).length = l.length * e := by
 induction l with
 | nil => simp [Zz]
 | cons v l ih => simp [Zz, ih, hc, Nat.succ_mul]; omega
theorem Q3b {T : Type} (c : T → List PV) (l : List T) : Zz c l = (Qd c l).flatten.map AV.p := by
 induction l with
 | nil => rfl
 | cons v l ih => simp [Zz, ih, Qd]
theorem Ut {T : Type} {c : T → List PV} {l : List T} {new : List AV} (vs : List T) {k : List AV → Prop} (e : new = Zz c vs) (h : k (Zz c (l ++ vs))) : Qcr (Zz c l) new k := by
 rw [J7, e, ← Qge]; exact h
theorem Wb {T : Type} {c : T → List PV} {e : Nat} (hc : ∀ v, (c v).length = e) {l : List T} {g : Bool} {n : Nat} (hn : n = l.length) (h : g = true) : (Nat.beq e e && (Nat.beq (0 + n * e) (Zz c l).length && g)) = true := by
 rw [h, Q0b hc, hn]; simp
theorem Q0e {T : Type} (c : T → List PV) (l : List T) (n : Nat) : Vq n (.cells (Zz c l)) = true := by
 have : ∀ ps : List PV, refsLt.refsLts n (ps.map AV.p) = true := by
  intro ps
  induction ps with
  | nil => rfl
  | cons p ps ih => simp [refsLt.refsLts, refsLt, ih]
 rw [Q3b]; exact this _
theorem Qfh {T : Type} (ρ : Nat → Nat) (c : T → List PV) (l : List T) : Q49 ρ (.cells (Zz c l)) = .cells (Zz c l) := by
 have : ∀ ps : List PV, Q6j ρ (ps.map AV.p) = ps.map AV.p := by
  intro ps
  induction ps with
  | nil => rfl
  | cons p ps ih => simp [Q6j, Q06, ih]
 simp only [Q49, Q3b, this]
theorem hO {T : Type} {c : T → List PV} {l : List T} {ρ : Nat → Nat} {K : Nat → Prop} {H : List AObj} {i : Nat} {r : List AObj} (e : H[ρ i]? = some (.cells (Zz c l))) (h : Q7m ρ K H (i + 1) r) : Q7m ρ K H i (.cells (Zz c l) :: r) :=
 hE (by rw [Qfh]; exact e) h
theorem Qkq {T : Type} {c : T → List PV} : ∀ (l : List T) (k : Nat), Zz c l = Zz c (l.take k) ++ Zz c (l.drop k) := fun l k => by rw [← Qge, Mm]
theorem roN {f : AObj → Bool} : ([] : List AObj).all f = true := rfl
theorem roE {f : AObj → Bool} {o : AObj} {r : List AObj} (h : f o = true) (t : r.all f = true) : (o :: r).all f = true := by simp [h, t]
def rho (l : List Nat) (i : Nat) : Nat := l.getD i i
theorem frz_own {T : Type} {c : T → List PV} {e : Nat} (hc : ∀ v, (c v).length = e) {K : Nat → Prop} {H : List AObj} {a n : Nat} {l : List T} (ho : H[a]? = some (.cells (Zz c l))) (hk : K a) (hn : n = l.length) :
  Frz K H (.slice e a 0 n) (.slice e (Qd c l)) := by
 subst hn
 have hl : (Qd c l).flatten.length = l.length * e := by
  have := Q0b hc l;rw [Q3b, Lx] at this; exact this
 have hcs : ((Zz c l).drop 0).take (l.length * e) = Zz c l := by
  rw [Nq]; exact Na (by rw [Q0b hc]; exact Ln _)
 refine .slice e a 0 l.length (Zz c l) (Qd c l) hk ho (Qh c l) (fun r hr => ?_) ?_ (fun i v x hv hx => ?_)
 ·simp only [Qd, Mw] at hr;obtain ⟨y, _, rfl⟩ := hr;exact hc y
 ·rw [hcs, Q0b hc, hl]
 rw [hcs, Q3b, Ll, hx] at hv;cases hv;exact .p _
theorem Qkb {α : Type} {i : Int} : idx ([] : List α) i = none := by cases i <;> rfl
theorem Q5i {α : Type} {l : List α} {i : Int} {v : α} (h : idx l i = some v) : 0 ≤ i ∧ i < l.length ∧ l[i.toNat]? = some v := by
 cases i with
 | ofNat n =>
  simp only [idx] at h;have := (La.1 h).1;exact ⟨Int.natCast_nonneg n, by show (n : Int) < l.length; omega, h⟩
 | negSucc n => cases h
theorem Vb {α : Type} {l : List α} {i : Int} {v : α} {n : Nat} (h : idx l i = some v) (hn : n = l.length) : (decide (0 ≤ i) && decide (i < (n : Int))) = true := by
 obtain ⟨h1, h2, _⟩ := Q5i h;simp [h1, hn, h2]
theorem Qeo {T : Type} {c : T → List PV} {e : Nat} (hc : ∀ v, (c v).length = e) : ∀ (l : List T) (i : Nat) (v : T), l[i]? = some v → ∃ r, (Zz c l).drop (i * e) = (c v).map AV.p ++ r
 | [], i, v, h => by simp at h
 | u :: l, 0, v, h => by simp at h; subst h; exact ⟨Zz c l, by simp [Zz]⟩
 | u :: l, i + 1, v, h => by
  obtain ⟨r, hr⟩ := Qeo hc l i v (by simpa using h);refine ⟨r, ?_⟩
  have : (i + 1) * e = ((c u).map AV.p).length + i * e := by simp [hc, Nat.succ_mul]; omega
  rw [Zz, this, ← Nk, Bs]; exact hr
theorem Q3n {T : Type} {c : T → List PV} {e : Nat} (hc : ∀ v, (c v).length = e) {l : List T} {i : Int} {v : T} (hv : idx l i = some v) {off n : Nat} {b : Bool} {k : AV → Prop} (hn : off + n ≤ e) {j : Nat} (hj : j = i.toNat * e + off)
  (h : Xo (EP P Gl) b ((((c v).drop off).take n).map AV.p) k) : Q4u j (Zz c l) (fun cs => Q3i (EP P Gl) n cs (fun cs => Xo (EP P Gl) b cs k)) := by
 subst hj;obtain ⟨_, _, h3⟩ := Q5i hv;obtain ⟨r, hr⟩ := Qeo hc l _ v h3
 have e1 : (Zz c l).drop (i.toNat * e + off) = ((c v).map AV.p).drop off ++ r := by
  rw [← Nk, hr, Ch (by simp [hc]; omega)]
 rw [J1, e1, Q08]
 have e2 : (((c v).map AV.p).drop off ++ r).take n = (((c v).drop off).take n).map AV.p := by
  rw [Ni (by simp [hc]; omega), ← List.map_drop, ← List.map_take]
 unfold Q00;rw [e2, if_pos (by simp [hc]; omega)];exact h
theorem Qos {l : List Int} {n : Nat} (hn : n = l.length) {k : List UInt8 → Prop} (h : k (l.map fun n => UInt8.ofNat n.toNat)) : Q3i (EP P Gl) n (Zz (cI .u8) l) (fun cs => Q43 (EP P Gl) k cs) := by
 subst hn
 have h1 : (Zz (cI .u8) l).length = l.length := by rw [Q0b (e := 1) (fun _ => rfl)]; omega
 rw [Q08];unfold Q00;rw [Na (by omega), if_pos h1];show Q43 (EP P Gl) k (Zz (cI .u8) l);rw [Q8z]
 have : ∀ l : List Int, Qhg (Zz (cI .u8) l) = some (l.map fun n => UInt8.ofNat n.toNat) := by
  intro l
  induction l with
  | nil => simp [Zz, Qhg]
  | cons b l ih => simp [Zz, Qhg, ih]
 rw [this]; exact h
theorem Q4c {b : List UInt8} {k : List AV → Prop} (h : k (Zz (cI .u8) (b.map fun x => (x.toNat : Int)))) :
  @List.rec UInt8 (fun _ => Up hi9 ((List AV → Prop) → Prop)) (fun k => k []) (fun v _ ih k => ih fun r => k (AV.p (.int .u8 (v.toNat : Int)) :: r)) b k := by
 have e : ∀ b : List UInt8, Zz (cI .u8) (b.map fun x => (x.toNat : Int)) = b.map fun x => AV.p (.int .u8 (x.toNat : Int)) := by
  intro b
  induction b with
  | nil => rfl
  | cons x b ih => simp [Zz, cI]; simpa [cI] using ih
 rw [e] at h;have := Xh (α := Prop) (fun x : UInt8 => AV.p (.int .u8 (x.toNat : Int))) b k;show Q54 (fun x : UInt8 => AV.p (.int .u8 (x.toNat : Int))) b k;rw [this]; exact h
theorem Qqp {T : Type} {c : T → List PV} {n : Nat} {zero : List PV} (z : T) (hz : c z = zero) {k : List AV → Prop} (h : k (Zz c (List.replicate n z))) :
  Q54 AV.p (List.replicate n zero).flatten k := by
 rw [Xh]
 have e : ∀ n, Zz c (List.replicate n z) = (List.replicate n zero).flatten.map AV.p := by
  intro n
  induction n with
  | zero => rfl
  | succ n ih => simp [List.replicate_succ, Zz, ih, hz]
 rw [← e]; exact h
theorem Q0r {T : Type} {c : T → List PV} {e : Nat} (hc : ∀ v, (c v).length = e) {l : List T} {i : Int} {v : T} (hv : idx l i = some v) {off n j m : Nat} (hj : j = i.toNat * e + off) (hm : m = n) (hn : off + n ≤ e) :
  (Nat.beq m n && Nat.ble (j + n) (Zz c l).length) = true := by
 obtain ⟨_, h2, _⟩ := Q5i hv
 have h3 : i.toNat + 1 ≤ l.length := by omega
 have := Ns e h3;rw [Q0b hc, hm, hj];simp only [Da, Bool.true_and, Lu];rw [Nt] at this;omega
theorem Qhf {T : Type} {c : T → List PV} {e : Nat} (hc : ∀ v, (c v).length = e) : ∀ (l : List T) (i : Nat) (v v' : T) (off : Nat) (new : List AV), l[i]? = some v →
  (c v').map AV.p = ((c v).map AV.p).take off ++ (new ++ ((c v).map AV.p).drop (off + new.length)) → off + new.length ≤ e →
  Zz c (l.set i v') = (Zz c l).take (i * e + off) ++ (new ++ (Zz c l).drop (i * e + off + new.length))
 | [], i, v, v', off, new, h, _, _ => by simp at h
 | u :: l, 0, v, v', off, new, h, hn, hl => by
  simp at h; subst h
  have h1 : ((c u).map AV.p).length = e := by simp [hc]
  simp only [List.set_cons_zero, Zz, Cx, Me];rw [Ni (by omega), Ch (by omega), hn];simp
 | u :: l, i + 1, v, v', off, new, h, hn, hl => by
  have h1 : ((c u).map AV.p).length = e := by simp [hc]
  have ih := Qhf hc l i v v' off new (by simpa using h) hn hl
  have e1 : (i + 1) * e + off = ((c u).map AV.p).length + (i * e + off) := by rw [h1, Nt]; omega
  simp only [List.set_cons_succ, Zz];rw [e1, Nj, List.take_length_add_append, List.drop_length_add_append, ih];simp
theorem Q0n {T : Type} {c : T → List PV} {e : Nat} (hc : ∀ v, (c v).length = e) {l : List T} {i : Int} {v : T} (hv : idx l i = some v) (v' : T) {off j : Nat} {new : List AV} (hj : j = i.toNat * e + off)
  (hnew : (c v').map AV.p = ((c v).map AV.p).take off ++ (new ++ ((c v).map AV.p).drop (off + new.length))) (hlen : off + new.length ≤ e) {k : List AV → Prop} (h : k (Zz c (l.set i.toNat v'))) : Q4p (Zz c l) j new k := by
 obtain ⟨_, _, h3⟩ := Q5i hv;rw [Q3x, J4, hj, ← Qhf hc l i.toNat v v' off new h3 hnew hlen];exact h
theorem Qjn {T : Type} {c : T → List PV} {e : Nat} (hc : ∀ v, (c v).length = e) {cs : List PV} {l : List T} (hl : cs = (Qd c l).flatten) {i : Int} {v : T} (hv : idx l i = some v) {off n : Nat} {b : Bool} {k : AV → Prop} (hn : off + n ≤ e) {j : Nat} (hj : j = i.toNat * e + off)
  (h : Xo (EP P Gl) b ((((c v).drop off).take n).map AV.p) k) : Q4u j cs (fun cs => Q54 AV.p cs (fun cs => Q3i (EP P Gl) n cs (fun cs => Xo (EP P Gl) b cs k))) := by
 have h1 := Q3n hc hv hn hj h;rw [Q3b, ← hl, J1] at h1;rw [J1, Xh, List.map_drop];exact h1
end
end
end Go.Av
