/- An abstract machine for the modelled code, and what its runs say of real calls. Part of a proof of a given statement: for every input the law returns true and the arguments read as before; no condition beyond the given row. -/
import Derived.Test.YtgalebkdefaonaaDoorAvLift
import Derived.Test.YtgalebkdefaonaaDoorAvJoin
namespace Go.Av
noncomputable section
section
variable {P : Program} {Gl : Nat → Option (List PV)}
def ownC {T : Type} (c : T → List PV) : List T → List AV
 | [] => []
 | v :: l => (c v).map AV.p ++ ownC c l
theorem ownC_app {T : Type} (c : T → List PV) (l m : List T) : ownC c (l ++ m) = ownC c l ++ ownC c m := by
 induction l with
 | nil => rfl
 | cons v l ih => simp [ownC, ih]
theorem ownC_len {T : Type} {c : T → List PV} {e : Nat} (hc : ∀ v, (c v).length = e) (l : List T) : (ownC c l).length = l.length * e := by
 induction l with
 | nil => simp [ownC]
 | cons v l ih => simp [ownC, ih, hc, Nat.succ_mul]; omega
theorem ownC_eq {T : Type} (c : T → List PV) (l : List T) : ownC c l = (rowsC c l).flatten.map AV.p := by
 induction l with
 | nil => rfl
 | cons v l ih => simp [ownC, ih, rowsC]
theorem appOwn {T : Type} {c : T → List PV} {l : List T} {new : List AV} (vs : List T) {k : List AV → Prop} (e : new = ownC c vs) (h : k (ownC c (l ++ vs))) : appK (ownC c l) new k := by
 rw [appK_eq, e, ← ownC_app]; exact h
theorem own_chk {T : Type} {c : T → List PV} {e : Nat} (hc : ∀ v, (c v).length = e) {l : List T} {g : Bool} {n : Nat} (hn : n = l.length) (h : g = true) : (Nat.beq e e && (Nat.beq (0 + n * e) (ownC c l).length && g)) = true := by
 rw [h, ownC_len hc, hn]; simp
theorem refs_own {T : Type} (c : T → List PV) (l : List T) (n : Nat) : refsObj n (.cells (ownC c l)) = true := by
 have : ∀ ps : List PV, refsLt.refsLts n (ps.map AV.p) = true := by
  intro ps
  induction ps with
  | nil => rfl
  | cons p ps ih => simp [refsLt.refsLts, refsLt, ih]
 rw [ownC_eq]; exact this _
theorem ren_own {T : Type} (ρ : Nat → Nat) (c : T → List PV) (l : List T) : renO ρ (.cells (ownC c l)) = .cells (ownC c l) := by
 have : ∀ ps : List PV, renVs ρ (ps.map AV.p) = ps.map AV.p := by
  intro ps
  induction ps with
  | nil => rfl
  | cons p ps ih => simp [renVs, renV, ih]
 simp only [renO, ownC_eq, this]
theorem hO {T : Type} {c : T → List PV} {l : List T} {ρ : Nat → Nat} {H : List AObj} {i : Nat} {r : List AObj} (e : H[ρ i]? = some (.cells (ownC c l))) (h : renH ρ H (i + 1) r) : renH ρ H i (.cells (ownC c l) :: r) :=
 hE (by rw [ren_own]; exact e) h
theorem roN {f : AObj → Bool} : ([] : List AObj).all f = true := rfl
theorem roE {f : AObj → Bool} {o : AObj} {r : List AObj} (h : f o = true) (t : r.all f = true) : (o :: r).all f = true := by simp [h, t]
def rho (l : List Nat) (i : Nat) : Nat := l.getD i i
def OwnS {T : Type} (e a : Nat) (c : T → List PV) (l : List T) (sl : AV) (ob : AObj) : Prop :=
 (l = [] ∧ sl = .p .nilSlice ∧ ob = .dead) ∨ (sl = .slice e a 0 l.length ∧ ob = .cells (ownC c l))
theorem frz_own {T : Type} {c : T → List PV} {e : Nat} (hc : ∀ v, (c v).length = e) {K : Nat → Prop} {H : List AObj} {a n : Nat} {l : List T} (ho : H[a]? = some (.cells (ownC c l))) (hk : K a) (hn : n = l.length) :
  Frz K H (.slice e a 0 n) (.slice e (rowsC c l)) := by
 subst hn
 have hl : (rowsC c l).flatten.length = l.length * e := by
  have := ownC_len hc l
  rw [ownC_eq, List.length_map] at this; exact this
 have hcs : ((ownC c l).drop 0).take (l.length * e) = ownC c l := by
  rw [List.drop_zero]; exact List.take_of_length_le (by rw [ownC_len hc]; exact Nat.le_refl _)
 refine .slice e a 0 l.length (ownC c l) (rowsC c l) hk ho (rowsC_length c l) (fun r hr => ?_) ?_ (fun i v x hv hx => ?_)
 ·simp only [rowsC, List.mem_map] at hr
  obtain ⟨y, _, rfl⟩ := hr
  exact hc y
 ·rw [hcs, ownC_len hc, hl]
 ·rw [hcs, ownC_eq, List.getElem?_map, hx] at hv
  cases hv
  exact .p _
theorem idx_bound {α : Type} {l : List α} {i : Int} {v : α} (h : idx l i = some v) : 0 ≤ i ∧ i < l.length ∧ l[i.toNat]? = some v := by
 cases i with
 | ofNat n =>
  simp only [idx] at h
  have := (List.getElem?_eq_some_iff.1 h).1
  exact ⟨Int.natCast_nonneg n, by show (n : Int) < l.length; omega, h⟩
 | negSucc n => cases h
theorem idx_chk {α : Type} {l : List α} {i : Int} {v : α} {n : Nat} (h : idx l i = some v) (hn : n = l.length) : (decide (0 ≤ i) && decide (i < (n : Int))) = true := by
 obtain ⟨h1, h2, _⟩ := idx_bound h
 simp [h1, hn, h2]
theorem ownC_drop {T : Type} {c : T → List PV} {e : Nat} (hc : ∀ v, (c v).length = e) : ∀ (l : List T) (i : Nat) (v : T), l[i]? = some v → ∃ r, (ownC c l).drop (i * e) = (c v).map AV.p ++ r
 | [], i, v, h => by simp at h
 | u :: l, 0, v, h => by simp at h; subst h; exact ⟨ownC c l, by simp [ownC]⟩
 | u :: l, i + 1, v, h => by
  obtain ⟨r, hr⟩ := ownC_drop hc l i v (by simpa using h)
  refine ⟨r, ?_⟩
  have : (i + 1) * e = ((c u).map AV.p).length + i * e := by simp [hc, Nat.succ_mul]; omega
  rw [ownC, this, ← List.drop_drop, List.drop_left]; exact hr
theorem loadOwn {T : Type} {c : T → List PV} {e : Nat} (hc : ∀ v, (c v).length = e) {l : List T} {i : Int} {v : T} (hv : idx l i = some v) {off n : Nat} {b : Bool} {k : AV → Prop} (hn : off + n ≤ e) {j : Nat} (hj : j = i.toNat * e + off)
  (h : ofCellsK (EP P Gl) b ((((c v).drop off).take n).map AV.p) k) : dropK j (ownC c l) (fun cs => takeN (EP P Gl) n cs (fun cs => ofCellsK (EP P Gl) b cs k)) := by
 subst hj
 obtain ⟨_, _, h3⟩ := idx_bound hv
 obtain ⟨r, hr⟩ := ownC_drop hc l _ v h3
 have e1 : (ownC c l).drop (i.toNat * e + off) = ((c v).map AV.p).drop off ++ r := by
  rw [← List.drop_drop, hr, List.drop_append_of_le_length (by simp [hc]; omega)]
 rw [dropK_eq, e1, takeN_eq]
 have e2 : (((c v).map AV.p).drop off ++ r).take n = (((c v).drop off).take n).map AV.p := by
  rw [List.take_append_of_le_length (by simp [hc]; omega), ← List.map_drop, ← List.map_take]
 unfold sTake
 rw [e2, if_pos (by simp [hc]; omega)]
 exact h
theorem globIdx {T : Type} {c : T → List PV} {e : Nat} (hc : ∀ v, (c v).length = e) {cs : List PV} {l : List T} (hl : cs = (rowsC c l).flatten) {i : Int} {v : T} (hv : idx l i = some v) {off n : Nat} {b : Bool} {k : AV → Prop} (hn : off + n ≤ e) {j : Nat} (hj : j = i.toNat * e + off)
  (h : ofCellsK (EP P Gl) b ((((c v).drop off).take n).map AV.p) k) : dropK j cs (fun cs => mapK AV.p cs (fun cs => takeN (EP P Gl) n cs (fun cs => ofCellsK (EP P Gl) b cs k))) := by
 have h1 := loadOwn hc hv hn hj h
 rw [ownC_eq, ← hl, dropK_eq] at h1
 rw [dropK_eq, mapK_eq, List.map_drop]
 exact h1
end
end
end Go.Av
