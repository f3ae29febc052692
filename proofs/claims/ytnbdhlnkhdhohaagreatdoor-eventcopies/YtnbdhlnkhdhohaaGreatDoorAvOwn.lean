/- Part of the proof of EventCopies: for every input the law returns true; no condition. -/
import Derived.Test.YtnbdhlnkhdhohaaGreatDoorAvTac
import Derived.Test.YtnbdhlnkhdhohaaGreatDoorAvJoin
namespace Go.Av
noncomputable section
section
variable {P : Program} {Gl : Nat → Option (List PV)}
def Qu {T : Type} (c : T → List PV) : List T → List AV
 | [] => []
 | v :: l => (c v).map AV.p ++ Qu c l
theorem Qp6 {T : Type} (c : T → List PV) (l m : List T) : Qu c (l ++ m) = Qu c l ++ Qu c m := by
 induction l with
 | nil => rfl
 | cons v l ih => simp [Qu, ih]
theorem Q4v {T : Type} {c : T → List PV} {e : Nat} (hc : ∀ v, (c v).length = e) (l : List T) : (Qu c l).length = l.length * e := by
 induction l with
 | nil => simp [Qu]
 | cons v l ih => simp [Qu, ih, hc, Nat.succ_mul]; omega
theorem Q8w {T : Type} (c : T → List PV) (l : List T) : Qu c l = (Q8 c l).flatten.map AV.p := by
 induction l with
 | nil => rfl
 | cons v l ih => simp [Qu, ih, Q8]
theorem Uy {T : Type} {c : T → List PV} {l : List T} {new : List AV} (vs : List T) {k : List AV → Prop} (e : new = Qu c vs) (h : k (Qu c (l ++ vs))) : Qkk (Qu c l) new k := by
 rw [Q2h, e, ← Qp6]; exact h
theorem Xe {T : Type} {c : T → List PV} {e : Nat} (hc : ∀ v, (c v).length = e) {l : List T} {g : Bool} {n : Nat} (hn : n = l.length) (h : g = true) : (Nat.beq e e && (Nat.beq (0 + n * e) (Qu c l).length && g)) = true := by
 rw [h, Q4v hc, hn]; simp
theorem Wr {T : Type} (c : T → List PV) (l : List T) (n : Nat) : Q1h n (.cells (Qu c l)) = true := by
 have : ∀ ps : List PV, refsLt.refsLts n (ps.map AV.p) = true := by
  intro ps
  induction ps with
  | nil => rfl
  | cons p ps ih => simp [refsLt.refsLts, refsLt, ih]
 rw [Q8w]; exact this _
theorem Qnd {T : Type} (ρ : Nat → Nat) (c : T → List PV) (l : List T) : Qd1 ρ (.cells (Qu c l)) = .cells (Qu c l) := by
 have : ∀ ps : List PV, Qeb ρ (ps.map AV.p) = ps.map AV.p := by
  intro ps
  induction ps with
  | nil => rfl
  | cons p ps ih => simp [Qeb, Q5w, ih]
 simp only [Qd1, Q8w, this]
theorem hO {T : Type} {c : T → List PV} {l : List T} {ρ : Nat → Nat} {K : Nat → Prop} {H : List AObj} {i : Nat} {r : List AObj} (e : H[ρ i]? = some (.cells (Qu c l))) (h : Qe6 ρ K H (i + 1) r) : Qe6 ρ K H i (.cells (Qu c l) :: r) :=
 hE (by rw [Qnd]; exact e) h
theorem Qu0 {T : Type} {c : T → List PV} : ∀ (l : List T) (k : Nat), Qu c l = Qu c (l.take k) ++ Qu c (l.drop k) := fun l k => by rw [← Qp6, Ng]
theorem roN {f : AObj → Bool} : ([] : List AObj).all f = true := rfl
theorem roE {f : AObj → Bool} {o : AObj} {r : List AObj} (h : f o = true) (t : r.all f = true) : (o :: r).all f = true := by simp [h, t]
def rho (l : List Nat) (i : Nat) : Nat := l.getD i i
theorem frz_own {T : Type} {c : T → List PV} {e : Nat} (hc : ∀ v, (c v).length = e) {K : Nat → Prop} {H : List AObj} {a n : Nat} {l : List T} (ho : H[a]? = some (.cells (Qu c l))) (hk : K a) (hn : n = l.length) :
  Frz K H (.slice e a 0 n) (.slice e (Q8 c l)) := by
 subst hn
 have hl : (Q8 c l).flatten.length = l.length * e := by
  have := Q4v hc l;rw [Q8w, Ls] at this; exact this
 have hcs : ((Qu c l).drop 0).take (l.length * e) = Qu c l := by
  rw [Nj]; exact Mo (by rw [Q4v hc]; exact Lp _)
 refine .slice e a 0 l.length (Qu c l) (Q8 c l) hk ho (Q5 c l) (fun r hr => ?_) ?_ (fun i v x hv hx => ?_)
 ·simp only [Q8, Nb] at hr;obtain ⟨y, _, rfl⟩ := hr;exact hc y
 ·rw [hcs, Q4v hc, hl]
 rw [hcs, Q8w, Ln, hx] at hv;cases hv;exact .p _
theorem Qtk {α : Type} {i : Int} : idx ([] : List α) i = none := by cases i <;> rfl
theorem Qcm {α : Type} {l : List α} {i : Int} {v : α} (h : idx l i = some v) : 0 ≤ i ∧ i < l.length ∧ l[i.toNat]? = some v := by
 cases i with
 | ofNat n =>
  simp only [idx] at h;have := (Lb.1 h).1;exact ⟨Int.natCast_nonneg n, by show (n : Int) < l.length; omega, h⟩
 | negSucc n => cases h
theorem Uz {α : Type} {l : List α} {i : Int} {v : α} {n : Nat} (h : idx l i = some v) (hn : n = l.length) : (decide (0 ≤ i) && decide (i < (n : Int))) = true := by
 obtain ⟨h1, h2, _⟩ := Qcm h;simp [h1, hn, h2]
theorem Qlt {T : Type} {c : T → List PV} {e : Nat} (hc : ∀ v, (c v).length = e) : ∀ (l : List T) (i : Nat) (v : T), l[i]? = some v → ∃ r, (Qu c l).drop (i * e) = (c v).map AV.p ++ r
 | [], i, v, h => by simp at h
 | u :: l, 0, v, h => by simp at h; subst h; exact ⟨Qu c l, by simp [Qu]⟩
 | u :: l, i + 1, v, h => by
  obtain ⟨r, hr⟩ := Qlt hc l i v (by simpa using h);refine ⟨r, ?_⟩
  have : (i + 1) * e = ((c u).map AV.p).length + i * e := by simp [hc, Nat.succ_mul]; omega
  rw [Qu, this, ← Mw, Da]; exact hr
theorem Q32 {T : Type} {c : T → List PV} {e : Nat} (hc : ∀ v, (c v).length = e) {l : List T} {i : Int} {v : T} (hv : idx l i = some v) {off n : Nat} {b : Bool} {k : AV → Prop} (hn : off + n ≤ e) {j : Nat} (hj : j = i.toNat * e + off)
  (h : Jg (EP P Gl) b ((((c v).drop off).take n).map AV.p) k) : Qcc j (Qu c l) (fun cs => Qc9 (EP P Gl) n cs (fun cs => Jg (EP P Gl) b cs k)) := by
 subst hj;obtain ⟨_, _, h3⟩ := Qcm hv;obtain ⟨r, hr⟩ := Qlt hc l _ v h3
 have e1 : (Qu c l).drop (i.toNat * e + off) = ((c v).map AV.p).drop off ++ r := by
  rw [← Mw, hr, Cf (by simp [hc]; omega)]
 rw [Q20, e1, Q4x]
 have e2 : (((c v).map AV.p).drop off ++ r).take n = (((c v).drop off).take n).map AV.p := by
  rw [Nh (by simp [hc]; omega), ← List.map_drop, ← List.map_take]
 unfold Q4p;rw [e2, if_pos (by simp [hc]; omega)];exact h
theorem Qhd {l : List Int} {n : Nat} (hn : n = l.length) {k : List UInt8 → Prop} (h : k (l.map fun n => UInt8.ofNat n.toNat)) : Qc9 (EP P Gl) n (Qu (cI .u8) l) (fun cs => Q9j (EP P Gl) k cs) := by
 subst hn
 have h1 : (Qu (cI .u8) l).length = l.length := by rw [Q4v (e := 1) (fun _ => rfl)]; omega
 rw [Q4x];unfold Q4p;rw [Mo (by omega), if_pos h1];show Q9j (EP P Gl) k (Qu (cI .u8) l);rw [Qg2]
 have : ∀ l : List Int, Qow (Qu (cI .u8) l) = some (l.map fun n => UInt8.ofNat n.toNat) := by
  intro l
  induction l with
  | nil => simp [Qu, Qow]
  | cons b l ih => simp [Qu, Qow, ih]
 rw [this]; exact h
theorem Q41 {b : List UInt8} {k : List AV → Prop} (h : k (Qu (cI .u8) (b.map fun x => (x.toNat : Int)))) :
  @List.rec UInt8 (fun _ => Up hi9 ((List AV → Prop) → Prop)) (fun k => k []) (fun v _ ih k => ih fun r => k (AV.p (.int .u8 (v.toNat : Int)) :: r)) b k := by
 have e : ∀ b : List UInt8, Qu (cI .u8) (b.map fun x => (x.toNat : Int)) = b.map fun x => AV.p (.int .u8 (x.toNat : Int)) := by
  intro b
  induction b with
  | nil => rfl
  | cons x b ih => simp [Qu, cI]; simpa [cI] using ih
 rw [e] at h;have := V3 (α := Prop) (fun x : UInt8 => AV.p (.int .u8 (x.toNat : Int))) b k;show Qaw (fun x : UInt8 => AV.p (.int .u8 (x.toNat : Int))) b k;rw [this]; exact h
theorem Qzz {T : Type} {c : T → List PV} {n : Nat} {zero : List PV} (z : T) (hz : c z = zero) {k : List AV → Prop} (h : k (Qu c (List.replicate n z))) :
  Qaw AV.p (List.replicate n zero).flatten k := by
 rw [V3]
 have e : ∀ n, Qu c (List.replicate n z) = (List.replicate n zero).flatten.map AV.p := by
  intro n
  induction n with
  | zero => rfl
  | succ n ih => simp [List.replicate_succ, Qu, ih, hz]
 rw [← e]; exact h
theorem Jb {T : Type} {c : T → List PV} {e : Nat} (hc : ∀ v, (c v).length = e) {l : List T} {i : Int} {v : T} (hv : idx l i = some v) {off n j m : Nat} (hj : j = i.toNat * e + off) (hm : m = n) (hn : off + n ≤ e) :
  (Nat.beq m n && Nat.ble (j + n) (Qu c l).length) = true := by
 obtain ⟨_, h2, _⟩ := Qcm hv
 have h3 : i.toNat + 1 ≤ l.length := by omega
 have := Nq e h3;rw [Q4v hc, hm, hj];simp only [Cu, Cm, Lk];rw [Nr] at this;omega
theorem Qpt {T : Type} {c : T → List PV} {e : Nat} (hc : ∀ v, (c v).length = e) : ∀ (l : List T) (i : Nat) (v v' : T) (off : Nat) (new : List AV), l[i]? = some v →
  (c v').map AV.p = ((c v).map AV.p).take off ++ (new ++ ((c v).map AV.p).drop (off + new.length)) → off + new.length ≤ e →
  Qu c (l.set i v') = (Qu c l).take (i * e + off) ++ (new ++ (Qu c l).drop (i * e + off + new.length))
 | [], i, v, v', off, new, h, _, _ => by simp at h
 | u :: l, 0, v, v', off, new, h, hn, hl => by
  simp at h; subst h
  have h1 : ((c u).map AV.p).length = e := by simp [hc]
  simp only [List.set_cons_zero, Qu, Cr, Mk];rw [Nh (by omega), Cf (by omega), hn];simp
 | u :: l, i + 1, v, v', off, new, h, hn, hl => by
  have h1 : ((c u).map AV.p).length = e := by simp [hc]
  have ih := Qpt hc l i v v' off new (by simpa using h) hn hl
  have e1 : (i + 1) * e + off = ((c u).map AV.p).length + (i * e + off) := by rw [h1, Nr]; omega
  simp only [List.set_cons_succ, Qu];rw [e1, Ni, List.take_length_add_append, List.drop_length_add_append, ih];simp
theorem Jc {T : Type} {c : T → List PV} {e : Nat} (hc : ∀ v, (c v).length = e) {l : List T} {i : Int} {v : T} (hv : idx l i = some v) (v' : T) {off j : Nat} {new : List AV} (hj : j = i.toNat * e + off)
  (hnew : (c v').map AV.p = ((c v).map AV.p).take off ++ (new ++ ((c v).map AV.p).drop (off + new.length))) (hlen : off + new.length ≤ e) {k : List AV → Prop} (h : k (Qu c (l.set i.toNat v'))) : Qad (Qu c l) j new k := by
 obtain ⟨_, _, h3⟩ := Qcm hv;rw [Q9i, Q26, hj, ← Qpt hc l i.toNat v v' off new h3 hnew hlen];exact h
theorem Qis {T : Type} {c : T → List PV} {e : Nat} (hc : ∀ v, (c v).length = e) {cs : List PV} {l : List T} (hl : cs = (Q8 c l).flatten) {i : Int} {v : T} (hv : idx l i = some v) {off n : Nat} {b : Bool} {k : AV → Prop} (hn : off + n ≤ e) {j : Nat} (hj : j = i.toNat * e + off)
  (h : Jg (EP P Gl) b ((((c v).drop off).take n).map AV.p) k) : Qcc j cs (fun cs => Qaw AV.p cs (fun cs => Qc9 (EP P Gl) n cs (fun cs => Jg (EP P Gl) b cs k))) := by
 have h1 := Q32 hc hv hn hj h;rw [Q8w, ← hl, Q20] at h1;rw [Q20, V3, List.map_drop];exact h1
end
end
end Go.Av
