/- Part of the proof of CrossNames: for every input the law returns true; no condition. -/
import Derived.Test.YtnbfaogioomghaaGreatDoorAvOwn
namespace Go.Av
noncomputable section
section
variable {P : Program} {Gl : Nat → Option (List PV)}
def GC (P : Program) (Gl : Nat → Option (List PV)) (f : Nat) (args : List AV) (H0 : List AObj) (r : AV) (H1 : List AObj) : Prop :=
 Ze P Gl f args H0 (fun v H' => v = r ∧ H' = H1)
theorem RenV.mono {ρ : Nat → Nat} {K K' : Nat → Prop} {H : List AObj} (hk : ∀ a, K a → K' a) {v u : AV} (h : RenV ρ K H v u) : RenV ρ K' H v u := by
 induction h with
 | same u => exact .same u
 | any v => exact .any v
 | nil e a off => exact .nil e a off
 | nil0 e a off => exact .nil0 e a off
 | frz v x h => exact .frz v x (Q1w (fun a o h1 h2 => ⟨hk a h1, h2⟩) h)
 | agg cs ds hn _ ih => exact .agg cs ds hn ih
 | tuple cs ds hn _ ih => exact .tuple cs ds hn ih
 | pagg ps ds hn _ ih => exact .pagg ps ds hn ih
theorem Q7v {θ θ' : Th} {σ : Nat → Nat} {S S' : Nat → Prop} {w : World} (hθ : ∀ a l, θ a = some l → θ' (σ a) = some l) (hS : ∀ c, S c → S' c) {v : AV} {cv : Value} (h : RelV θ S w v cv) : RelV θ' S' w (Vh σ v) cv := by
 induction h with
 | p x v hp => rw [Vh]; exact .p x v (hp.mono (fun c _ h => ⟨hS c h, rfl⟩))
 | ptr a off l hl => rw [Vh]; exact .ptr _ off l (hθ a l hl)
 | gptr g off => rw [Vh]; exact .gptr g off
 | rptr cells blk off val h0 hc h1 hv => rw [Vh]; exact .rptr cells blk off val (fun h => hS _ (h0 h)) hc h1 (fun j x hj => (hv j x hj).mono (fun c _ h => ⟨hS c h, rfl⟩))
 | slice esz a off len cap l addr hl he hle hs ha => rw [Vh]; exact .slice esz _ off len cap l addr (hθ a l hl) he hle hs ha
 | sliceN esz a off o => rw [Vh]; exact .sliceN esz _ off o
 | map r l hl => rw [Vh]; exact .map _ l (hθ r l hl)
 | func fn a b A B ha hb hav hbv iha ihb =>
  rw [Vh, Zx, Zx];refine .func fn _ _ A B (by simpa using ha) (by simpa using hb) (fun i x hx => ?_) (fun i x hx => ?_)
  ·rw [Lh] at hx
   cases hq : a[i]? with
   | none => rw [hq] at hx; cases hx
   | some y => rw [hq] at hx; cases hx; exact iha i y hq
  rw [Lh] at hx
  cases hq : b[i]? with
  | none => rw [hq] at hx; cases hx
  | some y => rw [hq] at hx; cases hx; exact ihb i y hq
 | iface t x v hv ih => rw [Vh]; exact .iface t _ v ih
 | agg cs C hn h1 hv ih =>
  rw [Vh, Zx];refine .agg _ C (by simpa using hn) h1 (fun i x hx => ?_);rw [Lh] at hx
  cases hq : cs[i]? with
  | none => rw [hq] at hx; cases hx
  | some y => rw [hq] at hx; cases hx; exact ih i y hq
 | tuple cs C hn hv ih =>
  rw [Vh, Zx];refine .tuple _ C (by simpa using hn) (fun i x hx => ?_);rw [Lh] at hx
  cases hq : cs[i]? with
  | none => rw [hq] at hx; cases hx
  | some y => rw [hq] at hx; cases hx; exact ih i y hq
 | any v => rw [Vh]; exact .any v
theorem Qgf {θ θ' : Th} {σ : Nat → Nat} {S S' : Nat → Prop} {w : World} (hθ : ∀ a l, θ a = some l → θ' (σ a) = some l) (hS : ∀ c, S c → S' c) {o : AObj} {l : Loc} (h : RelObj θ S w o l) : RelObj θ' S' w (Q3a σ o) l := by
 cases o with
 | cells cs =>
  obtain ⟨C, t, fz, h1, h2, h3, h4, h5⟩ := h;refine ⟨C, t, fz, h1, h2, h3, by simpa [Zx] using h4, fun j v hj => ?_⟩;rw [Zx, Lh] at hj
  cases hq : cs[j]? with
  | none => rw [hq] at hj; cases hj
  | some y => rw [hq] at hj; cases hj; exact ⟨Q7v hθ hS (h5 j y hq).1, (h5 j y hq).2⟩
 | map es =>
  obtain ⟨E, c, h1, h2, h3⟩ := h;refine ⟨E, c, h1, by simpa using h2, fun i k v hi => ?_⟩;rw [Lh] at hi
  cases hq : es[i]? with
  | none => rw [hq] at hi; cases hi
  | some y =>
   obtain ⟨k', v'⟩ := y;rw [hq] at hi; cases hi;exact ⟨(h3 i _ _ hq).1.mono (fun c _ h => ⟨hS c h, rfl⟩), Q7v hθ hS (h3 i _ _ hq).2⟩
 | strIter s pos => exact h
 | dead => trivial
 | ext R a =>
  obtain ⟨⟨la, h1, h2⟩, h3⟩ := h;exact ⟨⟨la, hθ a la h1, h2⟩, h3⟩
def Qj2 (ρ : Nat → Nat) (n m : Nat) (j : Nat) : Nat := if j < n then ρ j else m + (j - n)
def Qyo (ρ : Nat → Nat) (H H0 H1 : List AObj) (i : Nat) (o : AObj) : Prop :=
 (KD ρ H0 i ∧ H[i]? = some o) ∨ (∃ j o1, H1[j]? = some o1 ∧ Qj2 ρ H0.length H.length j = i ∧ (j < H0.length → i < H.length) ∧ o = Q3a (Qj2 ρ H0.length H.length) o1)
def Qj1 (ρ : Nat → Nat) (H H0 H1 : List AObj) : Nat → List AObj → Prop
 | _, [] => True
 | i, .dead :: r => Qj1 ρ H H0 H1 (i + 1) r
 | i, o :: r => Qyo ρ H H0 H1 i o ∧ Qj1 ρ H H0 H1 (i + 1) r
section
variable {ρ : Nat → Nat} {H H0 H1 : List AObj}
end
theorem RenV.heap {ρ : Nat → Nat} {H : List AObj} (H2 : List AObj) {v u : AV} (h : RenV ρ (fun _ => False) H v u) : RenV ρ (fun _ => False) H2 v u := by
 induction h with
 | same u => exact .same u
 | any v => exact .any v
 | nil e a off => exact .nil e a off
 | nil0 e a off => exact .nil0 e a off
 | frz v x h => exact .frz v x (Q1w (fun a o h1 h2 => h1.elim) h)
 | agg cs ds hn _ ih => exact .agg cs ds hn ih
 | tuple cs ds hn _ ih => exact .tuple cs ds hn ih
 | pagg ps ds hn _ ih => exact .pagg ps ds hn ih
theorem RenL.heap {ρ : Nat → Nat} {H : List AObj} {vs us : List AV} (h : RenL ρ (fun _ => False) H vs us) (H2 : List AObj) : RenL ρ (fun _ => False) H2 vs us :=
 ⟨h.1, fun i v u hv hu => (h.2 i v u hv hu).heap H2⟩
theorem Qdf {f : Nat} {args : List AV} {r : AV} {obs : List AObj} (hc : GC P Gl f args [] r obs) {vs : List AV} {H : List AObj} {na : Nat} (hna : na + obs.length ≤ H.length ∨ na = H.length)
  (hvs : RenL (fun i => i) (fun _ => False) H vs args) (hra : refsLt.refsLts 0 args = true) :
  Q8v P Gl f vs H na obs.length (fun v H' => v = Vh (fun j => na + j) r ∧ H' = Q26 H na (obs.map (Q3a (fun j => na + j)))) := by
 refine ⟨hc.1, fun θ w cargs hal ha hH hG => ?_⟩
 let bad0 : Nat → Prop := fun c => c < w.heap.size ∧ ¬ Q9 θ H c
 let θ0 : Th := ⟨fun j => if j < 0 then θ j else none, bad0⟩
 have hle : na ≤ H.length := by omega
 have hdead : ∀ i, i < obs.length → na + i < H.length := fun i hi => (La.1 (hal i hi).1).1;have hfree : ∀ c, Q9 θ H c → Q9 θ0 [] c := fun c hf => ⟨fun hb => hb.2 hf, fun a o l h => by simp at h⟩;have hH0 : Hp θ0 [] w := ⟨fun a o l h => by simp at h, fun a b oa ob la lb h => by simp at h, fun _ _ => rfl, fun a o l h => by simp at h, fun c h => h.1, fun b R e h => by simp at h⟩
 have hG0 : GlobOK Gl θ0 [] w := by
  intro g cs hg;obtain ⟨g1, g2, vs', g3, g4, g5⟩ := hG g cs hg;exact ⟨g1, hfree g g2, vs', g3, g4, fun j x hx => ⟨(g5 j x hx).1, (g5 j x hx).2.mono (fun c _ hf => ⟨hfree c hf, rfl⟩)⟩⟩
 have lts : ∀ (l : List AV), refsLt.refsLts 0 l = true → ∀ (i : Nat) x, l[i]? = some x → refsLt 0 x = true := by
  intro l
  induction l with
  | nil => intro _ i x hx; simp at hx
  | cons u us ih =>
   intro h i x hx;simp only [refsLt.refsLts, Lb] at h
   cases i with
   | zero => simp at hx; subst hx; exact h.1
   | succ i => exact ih h.2 i x (by simpa using hx)
 have ha0 : Uh θ0 (Q9 θ0 []) w args cargs := by
  refine ⟨by rw [ha.1, hvs.1], fun i u hu => ?_⟩
  have hlt : i < vs.length := by rw [hvs.1]; exact (La.1 hu).1
  have h1 := Q5n (n := 0) hH hfree (fun a o l h => h.elim) (hvs.2 i vs[i] u (Ld hlt) hu) _ (lts args hra i u hu) (ha.2 i _ (Ld hlt));exact RelV.mono (θ := rθ θ (fun i => i) 0) (θ' := θ0) (w' := w) (fun a l e => e) (fun c _ h => ⟨h, rfl⟩) h1
 refine (hc.2 θ0 w cargs ha0 hH0 hG0).mono ?_
 rintro e w' ⟨r', cr, H1', θ1, rfl, ⟨rfl, rfl⟩, q2, q3, q4⟩
 have hbe : θ1.bad = bad0 := q4.bad
 let m := H1'.length
 let σ : Nat → Nat := fun j => na + j
 let θ2 : Th := ⟨fun a => if na ≤ a ∧ a < na + m then θ1 (a - na) else θ a, θ.bad⟩
 have all : ∀ c, c < w.heap.size → NL θ1 H1' c ∧ w'.heap[c]? = w.heap[c]? := fun c hc => q4.nl c hc (fun a o l h => by simp at h)
 have fwd : ∀ j l, θ1 j = some l → θ2 (σ j) = some l := fun j l h => by
  by_cases hj : j < m
  ·simp only [θ2, σ]; rw [if_pos (by omega), Nat.add_sub_cancel_left]; exact h
  rw [q3.fresh j (by show m ≤ j; omega)] at h; cases h
 have get : ∀ (i : Nat) (o : AObj) (l : Loc), (Q26 H na (H1'.map (Q3a σ)))[i]? = some o → θ2 i = some l → (∃ j ob, i = na + j ∧ j < m ∧ H1'[j]? = some ob ∧ o = Q3a σ ob ∧ θ1 j = some l) ∨ (¬ (na ≤ i ∧ i < na + m) ∧ H[i]? = some o ∧ θ i = some l) := by
  intro i o l ho hθ;rw [U9 _ _ _ hle, Me] at ho
  by_cases he : na ≤ i ∧ i < na + m
  ·rw [if_pos he, Lh] at ho;simp only [θ2] at hθ;rw [if_pos he] at hθ
   cases hq : H1'[i - na]? with
   | none => rw [hq] at ho; cases ho
   | some ob => rw [hq] at ho; exact .inl ⟨i - na, ob, by omega, by omega, hq, (Option.some.inj ho).symm, hθ⟩
  rw [if_neg he] at ho;simp only [θ2] at hθ;rw [if_neg he] at hθ;exact .inr ⟨he, ho, hθ⟩
 have hext : ∀ a l, θ a = some l → θ2 a = some l := fun a l h => by
  by_cases he : na ≤ a ∧ a < na + m
  ·have := (hal (a - na) (by show a - na < m; omega)).2;rw [show na + (a - na) = a by omega] at this;rw [this] at h; cases h
  simp only [θ2]; rw [if_neg he]; exact h
 have hnl : ∀ c, c < w.heap.size → NL θ H c → NL θ2 (Q26 H na (H1'.map (Q3a σ))) c ∧ w'.heap[c]? = w.heap[c]? := fun c hc h => by
  refine ⟨fun i o l ho hl hθ => ?_, (all c hc).2⟩
  rcases get i o l ho hθ with ⟨j, ob, _, _, g1, rfl, g3⟩ | ⟨_, g2, g3⟩
  ·exact fun e => (all c hc).1 j ob l g1 (by rw [W8] at hl; exact hl) g3 ((Vd _ _ _).1 e)
  exact h i o l g2 hl g3
 have hS : ∀ c, Q9 θ1 H1' c → Q9 θ2 (Q26 H na (H1'.map (Q3a σ))) c := fun c hf => by
  have hnb : ¬ bad0 c := by rw [← hbe]; exact hf.1
  refine ⟨fun hb => hnb ⟨hH.badlt c hb, fun h => h.1 hb⟩, fun i o l ho hl hθ e => ?_⟩
  rcases get i o l ho hθ with ⟨j, ob, _, _, g1, rfl, g3⟩ | ⟨_, g2, g3⟩
  ·exact hf.2 j ob l g1 (by rw [W8] at hl; exact hl) g3 ((Vd _ _ _).1 e)
  exact hnb ⟨(hH.obj i o l g2 g3).lt hl c e, fun h => h.2 i o l g2 hl g3 e⟩
 have hnew : ∀ (j : Nat) (ob : AObj) (l : Loc), H1'[j]? = some ob → ob.live = true → θ1 j = some l → ∀ c, ob.occ l c → w.heap.size ≤ c := fun j ob l hj hl hθ c hc => by
  by_cases hlt : c < w.heap.size
  ·exact absurd hc ((all _ hlt).1 j ob l hj hl hθ)
  omega
 have hHp : Hp θ2 (Q26 H na (H1'.map (Q3a σ))) w' := by
  refine ⟨fun i o l ho hθ => ?_, fun a b oa ob' la lb hoa hob' hla hlb hθa hθb hne => ?_, fun i hi => ?_, fun i o l ho hl hθ => ?_, fun c hc => Mn (hH.badlt c hc) q4.size, fun i R e hi => by
   rw [U9 _ _ _ hle, Me] at hi
   by_cases he : na ≤ i ∧ i < na + H1'.length
   ·rw [if_pos he, Lh] at hi
    cases hq : H1'[i - na]? with
    | none => rw [hq] at hi; cases hi
    | some ob =>
     rw [hq] at hi
     cases ob with
     | ext R1 e1 =>
      obtain ⟨l, hl⟩ := q3.tok _ R1 e1 hq;exact ⟨l, by have := fwd _ l hl; simp only [σ] at this; rwa [show na + (i - na) = i by omega] at this⟩
     | _ => cases hi
   rw [if_neg he] at hi
   exact (hH.tok i R e hi).imp fun _ h => hext _ _ h⟩
  ·rcases get i o l ho hθ with ⟨j, ob, _, _, g1, rfl, g3⟩ | ⟨_, g2, g3⟩
   ·exact Qgf fwd hS (q3.obj j ob l g1 g3)
   have hr := hH.obj i o l g2 g3;exact hr.mono hext (fun c hc hf => ⟨⟨hf.1, (hnl c hc hf.2).1⟩, (hnl c hc hf.2).2⟩) (fun hb c hc => (all _ (hr.lt hb c hc)).2) q4.size
  ·rcases get a oa la hoa hθa with ⟨j, ob, ea, _, g1, rfl, g3⟩ | ⟨ea, g2, g3⟩ <;> rcases get b ob' lb hob' hθb with ⟨j', ob2, eb, _, k1, rfl, k3⟩ | ⟨eb, k2, k3⟩
   ·exact fun c x1 x2 => q3.dist j j' ob ob2 la lb g1 k1 (by rw [W8] at hla; exact hla) (by rw [W8] at hlb; exact hlb) g3 k3 (fun e => hne (by omega)) c ((Vd _ _ _).1 x1) ((Vd _ _ _).1 x2)
   ·intro c x1 x2;have h1 := hnew j ob la g1 (by rw [W8] at hla; exact hla) g3 c ((Vd _ _ _).1 x1);have h2 := (hH.obj b ob' lb k2 k3).lt hlb c x2;omega
   ·intro c x1 x2;have h1 := hnew j' ob2 lb k1 (by rw [W8] at hlb; exact hlb) k3 c ((Vd _ _ _).1 x2);have h2 := (hH.obj a oa la g2 g3).lt hla c x1;omega
   exact hH.dist a b oa ob' la lb g2 k2 hla hlb g3 k3 hne
  ·have h1 := (Vy (H1'.map (Q3a σ)) H na).1;have h2 := (Vy (H1'.map (Q3a σ)) H na).2 hle;rw [Me] at h2;simp only [θ2];rw [if_neg (by show ¬ (na ≤ i ∧ i < na + H1'.length); omega)];exact hH.fresh i (by omega)
  rcases get i o l ho hθ with ⟨j, ob, _, _, g1, rfl, g3⟩ | ⟨_, g2, g3⟩
  ·intro c hc hb;have h1 := hnew j ob l g1 (by rw [W8] at hl; exact hl) g3 c ((Vd _ _ _).1 hc);have h2 := hH.badlt _ hb;omega
  exact hH.good i o l g2 hl g3
 exact ⟨_, cr, _, θ2, rfl, ⟨rfl, rfl⟩, Q7v fwd hS q2, hHp, ⟨hext, rfl, hnl, q4.size, q4.os, q4.tape, q4.output⟩, fun b hb => by simp only [θ2]; rw [if_neg hb]⟩
theorem Qc1 {f : Nat} {args : List AV} {r : AV} {obs : List AObj} (hc : GC P Gl f args [] r obs) {vs : List AV} {H : List AObj} {k : AV → List AObj → List Nat → List Nat → Prop}
  (h0 : Nat.ble 1 obs.length = true) (hvs : RenL (fun i => i) (fun _ => False) H vs args) (hra : refsLt.refsLts 0 args = true) (A : List Nat) (hA : (List.range' H.length obs.length) = A) {r2 : AV} {H2 : List AObj} (hr : Vh (fun j => H.length + j) r = r2)
  (hH : H ++ obs.map (Q3a (fun j => H.length + j)) = H2) (hk : k r2 H2 [] A) : Z6 P Gl f vs H k := by
 subst hA hr hH;refine .inr ⟨[], obs.map (Q3a (fun j => H.length + j)), Vh (fun j => H.length + j) r, List.range' H.length obs.length, fun x h1 h2 => by simp at h2 ⊢; omega, fun H2 _ => ?_, ?_⟩
 ·rw [Me];refine ⟨hc.1, fun θ w cargs h1 h2 h3 h4 => ?_⟩;have h0 := Ni h0;have := (La.1 (h1 (obs.length - 1) (by omega)).1).1;exact (Qdf (na := H.length) hc (vs := vs) (H := H2) (.inl (by omega)) (hvs.heap H2) hra).2 θ w cargs h1 h2 h3 h4
 rw [Q52]; exact hk
theorem dO {f : AObj → AObj} {H obs obs' H2 : List AObj} (h : obs.map f = obs') (e : H ++ obs' = H2) : H ++ obs.map f = H2 := by rw [h, e]
structure GcP (ρ : Nat → Nat) (vs : List AV) (H : List AObj) (args : List AV) (H0 H1 : List AObj) (r : AV) (H2 : List AObj) (r2 : AV) : Prop where
 vs : RenL ρ (fun _ => False) H vs args
 ob : Q29 ρ (fun _ => False) H 0 H0
 inj : Qfk ρ 0 H0 = true
 refs : refsLt.refsLts H0.length args = true
 robj : (H0.all (Xm H0.length)) = true
 len : (Nat.beq H2.length (H.length + (H1.length - H0.length))) = true
 fin : Qj1 ρ H H0 H1 0 H2
 res : Vh (Qj2 ρ H0.length H.length) r = r2
end
end
end Go.Av
