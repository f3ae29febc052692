/- Part of the proof of VerdictNames: for every input the law returns true; no condition. -/
import Derived.Test.YtkoplndinjflaaaGreatDoorAvCtr
namespace Go.Av
noncomputable section
section
variable {P : Program} {Gl : Nat → Option (List PV)}
mutual
def Yv (ρ : Nat → Nat) : AV → AV
 | .ptr a off => .ptr (ρ a) off
 | .slice e a off len => .slice e (ρ a) off len
 | .map a => .map (ρ a)
 | .agg cs => .agg (Jl ρ cs)
 | .tuple cs => .tuple (Jl ρ cs)
 | .func fn a b => .func fn (Jl ρ a) (Jl ρ b)
 | .iface t v => .iface t (Yv ρ v)
 | .p x => .p x
 | .gptr g off => .gptr g off
 | .rptr cs => .rptr cs
 | .any => .any
def Jl (ρ : Nat → Nat) : List AV → List AV
 | [] => []
 | v :: vs => Yv ρ v :: Jl ρ vs
end
theorem Z2 (ρ : Nat → Nat) : ∀ vs, Jl ρ vs = vs.map (Yv ρ)
 | [] => rfl
 | v :: vs => by simp [Jl, Z2 ρ vs]
def Q1g (ρ : Nat → Nat) : AObj → AObj
 | .cells cs => .cells (Jl ρ cs)
 | .map es => .map (es.map fun p => (p.1, Yv ρ p.2))
 | .strIter s pos => .strIter s pos
 | .dead => .dead
 | .ext R a => .ext R (ρ a)
inductive RenV (ρ : Nat → Nat) (K : Nat → Prop) (H : List AObj) : AV → AV → Prop
 | same (u : AV) : RenV ρ K H (Yv ρ u) u
 | any (v : AV) : RenV ρ K H v .any
 | nil (e a off : Nat) : RenV ρ K H (.p .nilSlice) (.slice e a off 0)
 | nil0 (e a off : Nat) : RenV ρ K H (.p .slice0) (.slice e a off 0)
 | frz (v : AV) (x : PV) (h : Frz K H v x) : RenV ρ K H v (.p x)
 | agg (cs ds : List AV) (hn : cs.length = ds.length) (h : ∀ (i : Nat) v u, cs[i]? = some v → ds[i]? = some u → RenV ρ K H v u) : RenV ρ K H (.agg cs) (.agg ds)
 | tuple (cs ds : List AV) (hn : cs.length = ds.length) (h : ∀ (i : Nat) v u, cs[i]? = some v → ds[i]? = some u → RenV ρ K H v u) : RenV ρ K H (.tuple cs) (.tuple ds)
 | pagg (ps : List PV) (ds : List AV) (hn : ps.length = ds.length) (h : ∀ (i : Nat) v u, ps[i]? = some v → ds[i]? = some u → RenV ρ K H (.p v) u) : RenV ρ K H (.p (.agg ps)) (.agg ds)
def RenL (ρ : Nat → Nat) (K : Nat → Prop) (H : List AObj) (vs us : List AV) : Prop := vs.length = us.length ∧ ∀ (i : Nat) v u, vs[i]? = some v → us[i]? = some u → RenV ρ K H v u
def RenO (ρ : Nat → Nat) (K : Nat → Prop) (H : List AObj) (o o' : AObj) : Prop := o = Q1g ρ o' ∨ ∃ cs cs' more, o = .cells (cs ++ more) ∧ o' = .cells cs' ∧ RenL ρ K H cs cs'
def Qji (ρ : Nat → Nat) (K : Nat → Prop) (H : List AObj) (i : Nat) (o' : AObj) : Prop := (∃ o, H[ρ i]? = some o ∧ RenO ρ K H o o') ∨ (o' = .cells [] ∧ H.length ≤ ρ i)
def Q2f (ρ : Nat → Nat) (K : Nat → Prop) (H : List AObj) : Nat → List AObj → Prop
 | _, [] => True
 | i, .dead :: r => Q2f ρ K H (i + 1) r
 | i, o :: r => Qji ρ K H i o ∧ Q2f ρ K H (i + 1) r
def Qc5 (ρ : Nat → Nat) (n : Nat) (H' : List AObj) : Bool :=
 (List.range H'.length).all fun i => (!(decide (i < n)) || ρ i == i) && (List.range H'.length).all fun j => i == j || !((H'[i]?).any AObj.live) || !((H'[j]?).any AObj.live) || ρ i != ρ j
def kdB (ρ : Nat → Nat) (H' : List AObj) (a : Nat) : Bool := (List.range H'.length).all fun i => !((H'[i]?).any AObj.live) || ρ i != a
@[reducible] def KD (ρ : Nat → Nat) (H' : List AObj) (a : Nat) : Prop := kdB ρ H' a = true
structure Ren (ρ : Nat → Nat) (n : Nat) (tm : List AV) (H : List AObj) (tm' : List AV) (H' : List AObj) : Prop where
 tm : RenL ρ (KD ρ H') H tm tm'
 hp : Q2f ρ (KD ρ H') H 0 H'
 inj : Qc5 ρ n H' = true
 refs : refsLt.refsLts H'.length tm' = true
 robj : (H'.all (V8 H'.length)) = true
section
variable {ρ : Nat → Nat} {K : Nat → Prop} {H : List AObj}
theorem hN {i : Nat} : Q2f ρ K H i [] := trivial
theorem hD {i : Nat} {r : List AObj} (h : Q2f ρ K H (i + 1) r) : Q2f ρ K H i (.dead :: r) := h
theorem hX {i : Nat} {o : AObj} {r : List AObj} (e : Qji ρ K H i o) (h : Q2f ρ K H (i + 1) r) : Q2f ρ K H i (o :: r) := by
 cases o <;> first | exact ⟨e, h⟩ | exact h
theorem hE {i : Nat} {o : AObj} {r : List AObj} (e : H[ρ i]? = some (Q1g ρ o)) (h : Q2f ρ K H (i + 1) r) : Q2f ρ K H i (o :: r) := hX (.inl ⟨_, e, .inl rfl⟩) h
theorem hV {i : Nat} {r : List AObj} (e : H.length ≤ ρ i) (h : Q2f ρ K H (i + 1) r) : Q2f ρ K H i (.cells [] :: r) := hX (.inr ⟨rfl, e⟩) h
theorem hC {i : Nat} {cs cs' : List AV} {r : List AObj} (e : H[ρ i]? = some (.cells cs)) (g : RenL ρ K H cs cs') (h : Q2f ρ K H (i + 1) r) : Q2f ρ K H i (.cells cs' :: r) := hX (.inl ⟨_, e, .inr ⟨_, _, [], by rw [Nj], rfl, g⟩⟩) h
end

def rθ (θ : Th) (ρ : Nat → Nat) (n : Nat) : Th := ⟨fun a => if a < n then θ (ρ a) else none, θ.bad⟩
mutual
theorem Q2o {θ : Th} {ρ : Nat → Nat} {S : Nat → Prop} {w : World} {n : Nat} : ∀ (v : AV) (cv : Value), refsLt n v = true → RelV θ S w (Yv ρ v) cv → RelV (rθ θ ρ n) S w v cv
 | .p x, _, _, h => by rw [Yv] at h; cases h with | p _ _ h => exact .p _ _ h
 | .ptr a off, _, hr, h => by
  rw [Yv] at h
  cases h with
  | ptr _ _ l hl => exact .ptr a off l (by simp only [refsLt, decide_eq_true_eq] at hr; simp [rθ, hr, hl])
 | .gptr g off, _, _, h => by rw [Yv] at h; cases h; exact .gptr _ _
 | .rptr cs, _, _, h => by rw [Yv] at h; cases h with | rptr _ blk off val hS hc h1 hv => exact .rptr _ blk off val hS hc h1 hv
 | .slice e a off len, _, hr, h => by
  rw [Yv] at h
  cases h with
  | slice _ _ _ _ cap l addr hl he h1 h2 h3 => exact .slice _ _ _ _ cap l addr (by simp only [refsLt, decide_eq_true_eq] at hr; simp [rθ, hr, hl]) he h1 h2 h3
  | sliceN _ _ _ o => exact .sliceN _ _ _ o
 | .map a, _, hr, h => by
  rw [Yv] at h
  cases h with
  | map _ l hl => exact .map a l (by simp only [refsLt, decide_eq_true_eq] at hr; simp [rθ, hr, hl])
 | .func fn a b, _, hr, h => by
  simp only [refsLt, Lb] at hr;rw [Yv] at h
  cases h with
  | func _ _ _ A B ha hb hav hbv =>
   simp only [Z2, Mk] at ha hb;exact .func fn a b A B ha hb (V6 a hr.1 (fun i => A.getD i Qb) (fun i x hx => hav i _ (by rw [Z2, Lj, hx]; rfl)))
    (V6 b hr.2 (fun i => B.getD i Qb) (fun i x hx => hbv i _ (by rw [Z2, Lj, hx]; rfl)))
 | .iface t v, _, hr, h => by rw [Yv] at h; cases h with | iface _ _ u hv => exact .iface t v u (Q2o v u (by simpa [refsLt] using hr) hv)
 | .agg cs, _, hr, h => by
  simp only [refsLt] at hr;rw [Yv] at h
  cases h with
  | agg _ C hn h1 hv =>
   simp only [Z2, Mk] at hn;exact .agg cs C hn h1 (V6 cs hr (fun i => C.getD i Qb) (fun i x hx => hv i _ (by rw [Z2, Lj, hx]; rfl)))
 | .tuple cs, _, hr, h => by
  simp only [refsLt] at hr;rw [Yv] at h
  cases h with
  | tuple _ C hn hv =>
   simp only [Z2, Mk] at hn;exact .tuple cs C hn (V6 cs hr (fun i => C.getD i Qb) (fun i x hx => hv i _ (by rw [Z2, Lj, hx]; rfl)))
 | .any, cv, _, _ => .any cv
theorem V6 {θ : Th} {ρ : Nat → Nat} {S : Nat → Prop} {w : World} {n : Nat} : ∀ (vs : List AV), refsLt.refsLts n vs = true → ∀ (g : Nat → Value), (∀ (i : Nat) x, vs[i]? = some x → RelV θ S w (Yv ρ x) (g i)) → ∀ (i : Nat) x, vs[i]? = some x → RelV (rθ θ ρ n) S w x (g i)
 | [], _, _, _, i, x, hx => by simp at hx
 | v :: vs, hr, g, h, i, x, hx => by
  simp only [refsLt.refsLts, Lb] at hr
  cases i with
  | zero => simp at hx; subst hx; exact Q2o v _ hr.1 (h 0 v rfl)
  | succ i => exact V6 vs hr.2 (fun i => g (i + 1)) (fun i x hx => h (i + 1) x (by simpa using hx)) i x (by simpa using hx)
end
theorem Q7i {θ : Th} {ρ : Nat → Nat} {K : Nat → Prop} {S : Nat → Prop} {w : World} {H : List AObj} {n : Nat} (hH : Hp θ H w) (hS1 : ∀ c, Q9 θ H c → S c) (hS2 : ∀ a o l, K a → H[a]? = some o → o.live = true → θ a = some l → ∀ c, o.occ l c → S c)
  {v u : AV} (h : RenV ρ K H v u) : ∀ cv, refsLt n u = true → RelV θ (Q9 θ H) w v cv → RelV (rθ θ ρ n) S w u cv := by
 have lts : ∀ (l : List AV), refsLt.refsLts n l = true → ∀ (i : Nat) x, l[i]? = some x → refsLt n x = true := by
  intro l
  induction l with
  | nil => intro _ i x hx; simp at hx
  | cons u us ih =>
   intro h i x hx;simp only [refsLt.refsLts, Lb] at h
   cases i with
   | zero => simp at hx; subst hx; exact h.1
   | succ i => exact ih h.2 i x (by simpa using hx)
 induction h with
 | same u => intro cv hr h; exact (Q2o u cv hr h).mono (fun _ _ e => e) (fun c _ hf => ⟨hS1 c hf, rfl⟩)
 | any v => intro cv _ _; exact .any cv
 | nil e a off =>
  intro cv _ h;have := Qm h;subst this;exact .sliceN e a off none
 | nil0 e a off =>
  intro cv _ h;obtain ⟨o, rfl⟩ := Yo h;exact .sliceN e a off o
 | frz v x h => intro cv _ hr; exact .p _ _ (Vd (S := S) hH hS1 hS2 h hr)
 | agg cs ds hn _ ih =>
  intro cv hr h;simp only [refsLt] at hr
  cases h with
  | agg _ C hc h1 hv =>
   refine .agg ds C (by rw [hc, hn]) h1 (fun i u hu => ?_)
   have hlt : i < cs.length := by rw [hn]; exact (La.1 hu).1
   exact ih i cs[i] u (Ld hlt) hu _ (lts ds hr i u hu) (hv i _ (Ld hlt))
 | tuple cs ds hn _ ih =>
  intro cv hr h;simp only [refsLt] at hr
  cases h with
  | tuple _ C hc hv =>
   refine .tuple ds C (by rw [hc, hn]) (fun i u hu => ?_)
   have hlt : i < cs.length := by rw [hn]; exact (La.1 hu).1
   exact ih i cs[i] u (Ld hlt) hu _ (lts ds hr i u hu) (hv i _ (Ld hlt))
 | pagg ps ds hn _ ih =>
  intro cv hr h;simp only [refsLt] at hr
  cases h with
  | p _ _ h =>
   cases h with
   | agg _ C hc h1 hv =>
    refine .agg ds C (by rw [hc, hn]) h1 (fun i u hu => ?_)
    have hlt : i < ps.length := by rw [hn]; exact (La.1 hu).1
    exact ih i ps[i] u (Ld hlt) hu _ (lts ds hr i u hu) (.p _ _ (hv i _ (Ld hlt)))
theorem Zu {ρ : Nat → Nat} (o : AObj) : (Q1g ρ o).live = o.live := by cases o <;> rfl
theorem RenO.live {ρ : Nat → Nat} {K : Nat → Prop} {H : List AObj} {o o' : AObj} (h : RenO ρ K H o o') : o.live = o'.live := by
 rcases h with rfl | ⟨_, _, _, rfl, rfl, _⟩
 ·exact Zu o'
 rfl
theorem Yi {ρ : Nat → Nat} (o : AObj) (l : Loc) (c : Nat) : (Q1g ρ o).occ l c ↔ o.occ l c := by cases o <;> exact Iff.rfl
theorem RenO.occ {ρ : Nat → Nat} {K : Nat → Prop} {H : List AObj} {o o' : AObj} (h : RenO ρ K H o o') (l : Loc) (c : Nat) (e : o'.occ l c) : o.occ l c := by
 rcases h with rfl | ⟨_, _, _, rfl, rfl, _⟩
 ·exact (Yi o' l c).2 e
 exact e
end
end
end Go.Av
