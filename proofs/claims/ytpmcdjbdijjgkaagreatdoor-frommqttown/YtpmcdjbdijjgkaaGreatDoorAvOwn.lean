/- Part of the proof of FrommqttOwn: for every input the law returns true; no condition. -/
import Derived.Test.YtpmcdjbdijjgkaaGreatDoorAvTac
import Derived.Test.YtpmcdjbdijjgkaaGreatDoorAvJoin
namespace Go.Av
noncomputable section
section
variable {P : Program} {Gl : Nat → Option (List PV)}
def Y4 {T : Type} (c : T → List PV) : List T → List AV
 | [] => []
 | v :: l => (c v).map AV.p ++ Y4 c l
theorem Qf5 {T : Type} (c : T → List PV) (l m : List T) : Y4 c (l ++ m) = Y4 c l ++ Y4 c m := by
 induction l with
 | nil => rfl
 | cons v l ih => simp [Y4, ih]
theorem Gu {T : Type} {c : T → List PV} {e : Nat} (hc : ∀ v, (c v).length = e) (l : List T) : (Y4 c l).length = l.length * e := by
 induction l with
 | nil => simp [Y4]
 | cons v l ih => simp [Y4, ih, hc, Nat.succ_mul]; omega
theorem Q2u {T : Type} (c : T → List PV) (l : List T) : Y4 c l = (Q6 c l).flatten.map AV.p := by
 induction l with
 | nil => rfl
 | cons v l ih => simp [Y4, ih, Q6]
theorem Gb {T : Type} {c : T → List PV} {l : List T} {new : List AV} (vs : List T) {k : List AV → Prop} (e : new = Y4 c vs) (h : k (Y4 c (l ++ vs))) : Qco (Y4 c l) new k := by
 rw [J9, e, ← Qf5]; exact h
theorem Zn {T : Type} {c : T → List PV} {e : Nat} (hc : ∀ v, (c v).length = e) {l : List T} {g : Bool} {n : Nat} (hn : n = l.length) (h : g = true) : (Nat.beq e e && (Nat.beq (0 + n * e) (Y4 c l).length && g)) = true := by
 rw [h, Gu hc, hn]; simp
theorem Qd {T : Type} (c : T → List PV) (l : List T) (n : Nat) : Jr n (.cells (Y4 c l)) = true := by
 have : ∀ ps : List PV, refsLt.refsLts n (ps.map AV.p) = true := by
  intro ps
  induction ps with
  | nil => rfl
  | cons p ps ih => simp [refsLt.refsLts, refsLt, ih]
 rw [Q2u]; exact this _
theorem Qi6 {T : Type} (ρ : Nat → Nat) (c : T → List PV) (l : List T) : Q6r ρ (.cells (Y4 c l)) = .cells (Y4 c l) := by
 have : ∀ ps : List PV, Q7e ρ (ps.map AV.p) = ps.map AV.p := by
  intro ps
  induction ps with
  | nil => rfl
  | cons p ps ih => simp [Q7e, Q0l, ih]
 simp only [Q6r, Q2u, this]
theorem hO {T : Type} {c : T → List PV} {l : List T} {ρ : Nat → Nat} {K : Nat → Prop} {H : List AObj} {i : Nat} {r : List AObj} (e : H[ρ i]? = some (.cells (Y4 c l))) (h : Q7n ρ K H (i + 1) r) : Q7n ρ K H i (.cells (Y4 c l) :: r) :=
 hE (by rw [Qi6]; exact e) h
theorem Qi5 {T : Type} {c : T → List PV} : ∀ (l : List T) (k : Nat), Y4 c l = Y4 c (l.take k) ++ Y4 c (l.drop k) := fun l k => by rw [← Qf5, Mv]
theorem roN {f : AObj → Bool} : ([] : List AObj).all f = true := rfl
theorem roE {f : AObj → Bool} {o : AObj} {r : List AObj} (h : f o = true) (t : r.all f = true) : (o :: r).all f = true := by simp [h, t]
def rho (l : List Nat) (i : Nat) : Nat := l.getD i i
theorem frz_own {T : Type} {c : T → List PV} {e : Nat} (hc : ∀ v, (c v).length = e) {K : Nat → Prop} {H : List AObj} {a n : Nat} {l : List T} (ho : H[a]? = some (.cells (Y4 c l))) (hk : K a) (hn : n = l.length) :
  Frz K H (.slice e a 0 n) (.slice e (Q6 c l)) := by
 subst hn
 have hl : (Q6 c l).flatten.length = l.length * e := by
  have := Gu hc l;rw [Q2u, Ly] at this; exact this
 have hcs : ((Y4 c l).drop 0).take (l.length * e) = Y4 c l := by
  rw [Nr]; exact Mq (by rw [Gu hc]; exact Lo _)
 refine .slice e a 0 l.length (Y4 c l) (Q6 c l) hk ho (Qa c l) (fun r hr => ?_) ?_ (fun i v x hv hx => ?_)
 ·simp only [Q6, My] at hr;obtain ⟨y, _, rfl⟩ := hr;exact hc y
 ·rw [hcs, Gu hc, hl]
 rw [hcs, Q2u, Li, hx] at hv;cases hv;exact .p _
theorem Qi2 {α : Type} {i : Int} : idx ([] : List α) i = none := by cases i <;> rfl
theorem Q4g {α : Type} {l : List α} {i : Int} {v : α} (h : idx l i = some v) : 0 ≤ i ∧ i < l.length ∧ l[i.toNat]? = some v := by
 cases i with
 | ofNat n =>
  simp only [idx] at h;have := (Lb.1 h).1;exact ⟨Int.natCast_nonneg n, by show (n : Int) < l.length; omega, h⟩
 | negSucc n => cases h
theorem Vl {α : Type} {l : List α} {i : Int} {v : α} {n : Nat} (h : idx l i = some v) (hn : n = l.length) : (decide (0 ≤ i) && decide (i < (n : Int))) = true := by
 obtain ⟨h1, h2, _⟩ := Q4g h;simp [h1, hn, h2]
theorem Qd6 {T : Type} {c : T → List PV} {e : Nat} (hc : ∀ v, (c v).length = e) : ∀ (l : List T) (i : Nat) (v : T), l[i]? = some v → ∃ r, (Y4 c l).drop (i * e) = (c v).map AV.p ++ r
 | [], i, v, h => by simp at h
 | u :: l, 0, v, h => by simp at h; subst h; exact ⟨Y4 c l, by simp [Y4]⟩
 | u :: l, i + 1, v, h => by
  obtain ⟨r, hr⟩ := Qd6 hc l i v (by simpa using h);refine ⟨r, ?_⟩
  have : (i + 1) * e = ((c u).map AV.p).length + i * e := by simp [hc, Nat.succ_mul]; omega
  rw [Y4, this, ← Nc, Ce]; exact hr
theorem Q0b {T : Type} {c : T → List PV} {e : Nat} (hc : ∀ v, (c v).length = e) {l : List T} {i : Int} {v : T} (hv : idx l i = some v) {off n : Nat} {b : Bool} {k : AV → Prop} (hn : off + n ≤ e) {j : Nat} (hj : j = i.toNat * e + off)
  (h : W7 (EP P Gl) b ((((c v).drop off).take n).map AV.p) k) : Q4f j (Y4 c l) (fun cs => Q4r (EP P Gl) n cs (fun cs => W7 (EP P Gl) b cs k)) := by
 subst hj;obtain ⟨_, _, h3⟩ := Q4g hv;obtain ⟨r, hr⟩ := Qd6 hc l _ v h3
 have e1 : (Y4 c l).drop (i.toNat * e + off) = ((c v).map AV.p).drop off ++ r := by
  rw [← Nc, hr, Bo (by simp [hc]; omega)]
 rw [Uq, e1, Gq]
 have e2 : (((c v).map AV.p).drop off ++ r).take n = (((c v).drop off).take n).map AV.p := by
  rw [Mw (by simp [hc]; omega), ← List.map_drop, ← List.map_take]
 unfold Gk;rw [e2, if_pos (by simp [hc]; omega)];exact h
theorem Qd8 {l : List Int} {n : Nat} (hn : n = l.length) {k : List UInt8 → Prop} (h : k (l.map fun n => UInt8.ofNat n.toNat)) : Q4r (EP P Gl) n (Y4 (cI .u8) l) (fun cs => Q3c (EP P Gl) k cs) := by
 subst hn
 have h1 : (Y4 (cI .u8) l).length = l.length := by rw [Gu (e := 1) (fun _ => rfl)]; omega
 rw [Gq];unfold Gk;rw [Mq (by omega), if_pos h1];show Q3c (EP P Gl) k (Y4 (cI .u8) l);rw [Q7s]
 have : ∀ l : List Int, Qft (Y4 (cI .u8) l) = some (l.map fun n => UInt8.ofNat n.toNat) := by
  intro l
  induction l with
  | nil => simp [Y4, Qft]
  | cons b l ih => simp [Y4, Qft, ih]
 rw [this]; exact h
theorem Q7x {b : List UInt8} {k : List AV → Prop} (h : k (Y4 (cI .u8) (b.map fun x => (x.toNat : Int)))) :
  @List.rec UInt8 (fun _ => Up hi9 ((List AV → Prop) → Prop)) (fun k => k []) (fun v _ ih k => ih fun r => k (AV.p (.int .u8 (v.toNat : Int)) :: r)) b k := by
 have e : ∀ b : List UInt8, Y4 (cI .u8) (b.map fun x => (x.toNat : Int)) = b.map fun x => AV.p (.int .u8 (x.toNat : Int)) := by
  intro b
  induction b with
  | nil => rfl
  | cons x b ih => simp [Y4, cI]; simpa [cI] using ih
 rw [e] at h;have := Yw (α := Prop) (fun x : UInt8 => AV.p (.int .u8 (x.toNat : Int))) b k;show Q4c (fun x : UInt8 => AV.p (.int .u8 (x.toNat : Int))) b k;rw [this]; exact h
theorem Qnz {T : Type} {c : T → List PV} {n : Nat} {zero : List PV} (z : T) (hz : c z = zero) {k : List AV → Prop} (h : k (Y4 c (List.replicate n z))) :
  Q4c AV.p (List.replicate n zero).flatten k := by
 rw [Yw]
 have e : ∀ n, Y4 c (List.replicate n z) = (List.replicate n zero).flatten.map AV.p := by
  intro n
  induction n with
  | zero => rfl
  | succ n ih => simp [List.replicate_succ, Y4, ih, hz]
 rw [← e]; exact h
theorem Wo {T : Type} {c : T → List PV} {e : Nat} (hc : ∀ v, (c v).length = e) {l : List T} {i : Int} {v : T} (hv : idx l i = some v) {off n j m : Nat} (hj : j = i.toNat * e + off) (hm : m = n) (hn : off + n ≤ e) :
  (Nat.beq m n && Nat.ble (j + n) (Y4 c l).length) = true := by
 obtain ⟨_, h2, _⟩ := Q4g hv
 have h3 : i.toNat + 1 ≤ l.length := by omega
 have := Ni e h3;rw [Gu hc, hm, hj];simp only [Cc, Bool.true_and, Lr];rw [Nj] at this;omega
theorem Qfs {T : Type} {c : T → List PV} {e : Nat} (hc : ∀ v, (c v).length = e) : ∀ (l : List T) (i : Nat) (v v' : T) (off : Nat) (new : List AV), l[i]? = some v →
  (c v').map AV.p = ((c v).map AV.p).take off ++ (new ++ ((c v).map AV.p).drop (off + new.length)) → off + new.length ≤ e →
  Y4 c (l.set i v') = (Y4 c l).take (i * e + off) ++ (new ++ (Y4 c l).drop (i * e + off + new.length))
 | [], i, v, v', off, new, h, _, _ => by simp at h
 | u :: l, 0, v, v', off, new, h, hn, hl => by
  simp at h; subst h
  have h1 : ((c u).map AV.p).length = e := by simp [hc]
  simp only [List.set_cons_zero, Y4, Bz, Me];rw [Mw (by omega), Bo (by omega), hn];simp
 | u :: l, i + 1, v, v', off, new, h, hn, hl => by
  have h1 : ((c u).map AV.p).length = e := by simp [hc]
  have ih := Qfs hc l i v v' off new (by simpa using h) hn hl
  have e1 : (i + 1) * e + off = ((c u).map AV.p).length + (i * e + off) := by rw [h1, Nj]; omega
  simp only [List.set_cons_succ, Y4];rw [e1, Mz, List.take_length_add_append, List.drop_length_add_append, ih];simp
theorem Wr {T : Type} {c : T → List PV} {e : Nat} (hc : ∀ v, (c v).length = e) {l : List T} {i : Int} {v : T} (hv : idx l i = some v) (v' : T) {off j : Nat} {new : List AV} (hj : j = i.toNat * e + off)
  (hnew : (c v').map AV.p = ((c v).map AV.p).take off ++ (new ++ ((c v).map AV.p).drop (off + new.length))) (hlen : off + new.length ≤ e) {k : List AV → Prop} (h : k (Y4 c (l.set i.toNat v'))) : Q4a (Y4 c l) j new k := by
 obtain ⟨_, _, h3⟩ := Q4g hv;rw [Q3a, Uu, hj, ← Qfs hc l i.toNat v v' off new h3 hnew hlen];exact h
theorem Qht {T : Type} {c : T → List PV} {e : Nat} (hc : ∀ v, (c v).length = e) {cs : List PV} {l : List T} (hl : cs = (Q6 c l).flatten) {i : Int} {v : T} (hv : idx l i = some v) {off n : Nat} {b : Bool} {k : AV → Prop} (hn : off + n ≤ e) {j : Nat} (hj : j = i.toNat * e + off)
  (h : W7 (EP P Gl) b ((((c v).drop off).take n).map AV.p) k) : Q4f j cs (fun cs => Q4c AV.p cs (fun cs => Q4r (EP P Gl) n cs (fun cs => W7 (EP P Gl) b cs k))) := by
 have h1 := Q0b hc hv hn hj h;rw [Q2u, ← hl, Uq] at h1;rw [Uq, Yw, List.map_drop];exact h1
end
end
end Go.Av
