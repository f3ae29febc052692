/- An abstract machine for the modelled code, and what its runs say of real calls. Part of a proof of a given statement: for every input the law returns true and the arguments read as before; no condition beyond the given row. -/
import Derived.Test.YtgalebkdefaonaaDoorAvCtr
namespace Go.Av
noncomputable section
section
variable {P : Program} {Gl : Nat → Option (List PV)}
mutual
def renV (ρ : Nat → Nat) : AV → AV
 | .ptr a off => .ptr (ρ a) off
 | .slice e a off len => .slice e (ρ a) off len
 | .map a => .map (ρ a)
 | .agg cs => .agg (renVs ρ cs)
 | .tuple cs => .tuple (renVs ρ cs)
 | .func fn a b => .func fn (renVs ρ a) (renVs ρ b)
 | .iface t v => .iface t (renV ρ v)
 | .p x => .p x
 | .gptr g off => .gptr g off
 | .rptr cs => .rptr cs
 | .any => .any
def renVs (ρ : Nat → Nat) : List AV → List AV
 | [] => []
 | v :: vs => renV ρ v :: renVs ρ vs
end
theorem renVs_eq (ρ : Nat → Nat) : ∀ vs, renVs ρ vs = vs.map (renV ρ)
 | [] => rfl
 | v :: vs => by simp [renVs, renVs_eq ρ vs]
def renO (ρ : Nat → Nat) : AObj → AObj
 | .cells cs => .cells (renVs ρ cs)
 | .map es => .map (es.map fun p => (p.1, renV ρ p.2))
 | .strIter s pos => .strIter s pos
 | .dead => .dead
def renL (ρ : Nat → Nat) : List AV → List AV → Prop
 | [], [] => True
 | _ :: vs, .any :: us => renL ρ vs us
 | v :: vs, u :: us => v = renV ρ u ∧ renL ρ vs us
 | _, _ => False
def renH (ρ : Nat → Nat) (H : List AObj) : Nat → List AObj → Prop
 | _, [] => True
 | i, .dead :: r => renH ρ H (i + 1) r
 | i, o :: r => H[ρ i]? = some (renO ρ o) ∧ renH ρ H (i + 1) r
def renI (ρ : Nat → Nat) (n : Nat) (H' : List AObj) : Bool :=
 (List.range H'.length).all fun i => (!(decide (i < n)) || ρ i == i) && (List.range H'.length).all fun j => i == j || !((H'[i]?).any AObj.live) || !((H'[j]?).any AObj.live) || ρ i != ρ j
structure Ren (ρ : Nat → Nat) (n : Nat) (tm : List AV) (H : List AObj) (tm' : List AV) (H' : List AObj) : Prop where
 tm : renL ρ tm tm'
 hp : renH ρ H 0 H'
 inj : renI ρ n H' = true
 refs : refsLt.refsLts H'.length tm' = true
 robj : (H'.all (refsObj H'.length)) = true
theorem rN {ρ : Nat → Nat} : renL ρ [] [] := trivial
theorem rA {ρ : Nat → Nat} {v : AV} {vs us : List AV} (h : renL ρ vs us) : renL ρ (v :: vs) (.any :: us) := h
theorem rE {ρ : Nat → Nat} {v u : AV} {vs us : List AV} (e : v = renV ρ u) (h : renL ρ vs us) : renL ρ (v :: vs) (u :: us) := by
 cases u <;> first | exact h | exact ⟨e, h⟩
theorem hN {ρ : Nat → Nat} {H : List AObj} {i : Nat} : renH ρ H i [] := trivial
theorem hD {ρ : Nat → Nat} {H : List AObj} {i : Nat} {r : List AObj} (h : renH ρ H (i + 1) r) : renH ρ H i (.dead :: r) := h
theorem hE {ρ : Nat → Nat} {H : List AObj} {i : Nat} {o : AObj} {r : List AObj} (e : H[ρ i]? = some (renO ρ o)) (h : renH ρ H (i + 1) r) : renH ρ H i (o :: r) := by
 cases o <;> first | exact ⟨e, h⟩ | exact h

def rθ (θ : Th) (ρ : Nat → Nat) (n : Nat) : Th := ⟨fun a => if a < n then θ (ρ a) else none, θ.bad⟩
mutual
theorem ren_rel {θ : Th} {ρ : Nat → Nat} {S : Nat → Prop} {w : World} {n : Nat} : ∀ (v : AV) (cv : Value), refsLt n v = true → RelV θ S w (renV ρ v) cv → RelV (rθ θ ρ n) S w v cv
 | .p x, _, _, h => by rw [renV] at h; cases h with | p _ _ h => exact .p _ _ h
 | .ptr a off, _, hr, h => by
  rw [renV] at h
  cases h with
  | ptr _ _ l hl => exact .ptr a off l (by simp only [refsLt, decide_eq_true_eq] at hr; simp [rθ, hr, hl])
 | .gptr g off, _, _, h => by rw [renV] at h; cases h; exact .gptr _ _
 | .rptr cs, _, _, h => by rw [renV] at h; cases h with | rptr _ blk off val hS hc h1 hv => exact .rptr _ blk off val hS hc h1 hv
 | .slice e a off len, _, hr, h => by
  rw [renV] at h
  cases h with
  | slice _ _ _ _ cap l addr hl he h1 h2 h3 => exact .slice _ _ _ _ cap l addr (by simp only [refsLt, decide_eq_true_eq] at hr; simp [rθ, hr, hl]) he h1 h2 h3
 | .map a, _, hr, h => by
  rw [renV] at h
  cases h with
  | map _ l hl => exact .map a l (by simp only [refsLt, decide_eq_true_eq] at hr; simp [rθ, hr, hl])
 | .func fn a b, _, hr, h => by
  simp only [refsLt, Bool.and_eq_true] at hr
  rw [renV] at h
  cases h with
  | func _ _ _ A B ha hb hav hbv =>
   simp only [renVs_eq, List.length_map] at ha hb
   exact .func fn a b A B ha hb (ren_rels a hr.1 (fun i => A.getD i vundef) (fun i x hx => hav i _ (by rw [renVs_eq, List.getElem?_map, hx]; rfl)))
    (ren_rels b hr.2 (fun i => B.getD i vundef) (fun i x hx => hbv i _ (by rw [renVs_eq, List.getElem?_map, hx]; rfl)))
 | .iface t v, _, hr, h => by rw [renV] at h; cases h with | iface _ _ u hv => exact .iface t v u (ren_rel v u (by simpa [refsLt] using hr) hv)
 | .agg cs, _, hr, h => by
  simp only [refsLt] at hr
  rw [renV] at h
  cases h with
  | agg _ C hn h1 hv =>
   simp only [renVs_eq, List.length_map] at hn
   exact .agg cs C hn h1 (ren_rels cs hr (fun i => C.getD i vundef) (fun i x hx => hv i _ (by rw [renVs_eq, List.getElem?_map, hx]; rfl)))
 | .tuple cs, _, hr, h => by
  simp only [refsLt] at hr
  rw [renV] at h
  cases h with
  | tuple _ C hn hv =>
   simp only [renVs_eq, List.length_map] at hn
   exact .tuple cs C hn (ren_rels cs hr (fun i => C.getD i vundef) (fun i x hx => hv i _ (by rw [renVs_eq, List.getElem?_map, hx]; rfl)))
 | .any, cv, _, _ => .any cv
theorem ren_rels {θ : Th} {ρ : Nat → Nat} {S : Nat → Prop} {w : World} {n : Nat} : ∀ (vs : List AV), refsLt.refsLts n vs = true → ∀ (g : Nat → Value), (∀ (i : Nat) x, vs[i]? = some x → RelV θ S w (renV ρ x) (g i)) → ∀ (i : Nat) x, vs[i]? = some x → RelV (rθ θ ρ n) S w x (g i)
 | [], _, _, _, i, x, hx => by simp at hx
 | v :: vs, hr, g, h, i, x, hx => by
  simp only [refsLt.refsLts, Bool.and_eq_true] at hr
  cases i with
  | zero => simp at hx; subst hx; exact ren_rel v _ hr.1 (h 0 v rfl)
  | succ i => exact ren_rels vs hr.2 (fun i => g (i + 1)) (fun i x hx => h (i + 1) x (by simpa using hx)) i x (by simpa using hx)
end
theorem renL_get {ρ : Nat → Nat} : ∀ (vs us : List AV), renL ρ vs us → vs.length = us.length ∧ ∀ (i : Nat) u, us[i]? = some u → u = .any ∨ vs[i]? = some (renV ρ u)
 | [], [], _ => ⟨rfl, fun i u h => by simp at h⟩
 | v :: vs, u :: us, h => by
  have key : renL ρ vs us ∧ (u = .any ∨ v = renV ρ u) := by
   cases u <;> simp only [renL] at h <;> first | exact ⟨h, .inl rfl⟩ | exact ⟨h.2, .inr h.1⟩
  obtain ⟨h1, h2⟩ := renL_get vs us key.1
  refine ⟨by simp [h1], fun i x hx => ?_⟩
  cases i with
  | zero =>
   simp at hx; subst hx
   rcases key.2 with h | h
   ·exact .inl h
   ·exact .inr (by simp [h])
  | succ i => simpa using h2 i x (by simpa using hx)
 | [], _ :: _, h => by simp [renL] at h
 | _ :: _, [], h => by simp [renL] at h
theorem renH_get {ρ : Nat → Nat} {H : List AObj} : ∀ (H' : List AObj) (i : Nat), renH ρ H i H' → ∀ (b : Nat) o, H'[b]? = some o → o = .dead ∨ H[ρ (i + b)]? = some (renO ρ o)
 | [], _, _, b, o, hb => by simp at hb
 | o' :: r, i, h, b, o, hb => by
  have key : renH ρ H (i + 1) r ∧ (o' = .dead ∨ H[ρ i]? = some (renO ρ o')) := by
   cases o' <;> simp only [renH] at h <;> first | exact ⟨h, .inl rfl⟩ | exact ⟨h.2, .inr h.1⟩
  cases b with
  | zero => simp at hb; subst hb; exact key.2
  | succ b =>
   have := renH_get r (i + 1) key.1 b o (by simpa using hb)
   rwa [show i + (b + 1) = i + 1 + b by omega]
theorem renO_live {ρ : Nat → Nat} (o : AObj) : (renO ρ o).live = o.live := by cases o <;> rfl
theorem renI_get {ρ : Nat → Nat} {n : Nat} {H' : List AObj} (h : renI ρ n H' = true) : (∀ i, i < H'.length → i < n → ρ i = i) ∧
  ∀ (i j : Nat) oi oj, H'[i]? = some oi → H'[j]? = some oj → oi.live = true → oj.live = true → ρ i = ρ j → i = j := by
 unfold renI at h
 rw [List.all_eq_true] at h
 refine ⟨fun i hi hn => ?_, fun i j oi oj hi hj hli hlj he => ?_⟩
 ·have := h i (List.mem_range.2 hi)
  simp only [Bool.and_eq_true, Bool.or_eq_true, Bool.not_eq_true', decide_eq_false_iff_not, beq_iff_eq] at this
  exact this.1.resolve_left (by omega)
 ·have h1 := (List.getElem?_eq_some_iff.1 hi).1
  have h2 := (List.getElem?_eq_some_iff.1 hj).1
  have := h i (List.mem_range.2 h1)
  simp only [Bool.and_eq_true] at this
  have := List.all_eq_true.1 this.2 j (List.mem_range.2 h2)
  simp only [hi, hj, Option.any_some, hli, hlj, Bool.not_true, Bool.or_false, Bool.or_eq_true, beq_iff_eq, bne_iff_ne, ne_eq] at this
  rcases this with h | h
  ·exact h
  ·exact absurd he h
theorem ren_step {ρ : Nat → Nat} {n : Nat} {θ : Th} {w : World} {tm tm' : List AV} {H H' : List AObj} {a : Act} (hw : Ren ρ n tm H tm' H') (hT : TmOk θ (Free θ H) w tm a) (hH : Hp θ H w) :
  TmOk (rθ θ ρ H'.length) (Free (rθ θ ρ H'.length) H') w tm' a ∧ Hp (rθ θ ρ H'.length) H' w ∧ (∀ c, NL θ H c → NL (rθ θ ρ H'.length) H' c) := by
 obtain ⟨h1, h2, h3, h4, h5⟩ := hw
 obtain ⟨l1, l2⟩ := renL_get tm tm' h1
 obtain ⟨i1, i2⟩ := renI_get h3
 have get : ∀ (b : Nat) o, H'[b]? = some o → o.live = true → H[ρ b]? = some (renO ρ o) ∧ b < H'.length := by
  intro b o hb hl
  have hlt := (List.getElem?_eq_some_iff.1 hb).1
  rcases renH_get H' 0 h2 b o hb with h | h
  ·subst h; cases hl
  ·rw [Nat.zero_add] at h; exact ⟨h, hlt⟩
 have nl : ∀ c, NL θ H c → NL (rθ θ ρ H'.length) H' c := by
  intro c hf b o l hb hl hθ
  obtain ⟨g1, g2⟩ := get b o hb hl
  simp only [rθ, if_pos g2] at hθ
  exact hf _ _ l g1 (by rw [renO_live]; exact hl) hθ
 have free : ∀ c, Free θ H c → Free (rθ θ ρ H'.length) H' c := fun c hf => ⟨hf.1, nl c hf.2⟩
 have mono : ∀ {x : AV} {v : Value}, RelV (rθ θ ρ H'.length) (Free θ H) w x v → RelV (rθ θ ρ H'.length) (Free (rθ θ ρ H'.length) H') w x v :=
  fun r => r.mono (fun _ _ e => e) (fun c _ hf => ⟨free c hf, rfl⟩)
 refine ⟨⟨by rw [hT.size, l1], ?_, hT.defers⟩, ⟨?_, ?_, ?_, ?_, hH.badlt⟩, nl⟩
 ·intro i v hv
  have hr : v = .any ∨ RelV θ (Free θ H) w (renV ρ v) (a.tmps.getD i undef) := by
   rcases l2 i v hv with rfl | hx'
   ·exact .inl rfl
   ·exact .inr (hT.val i _ hx')
  rcases hr with rfl | hr
  ·exact .any _
  ·have hrf : refsLt H'.length v = true := by
    have : ∀ (vs : List AV), refsLt.refsLts H'.length vs = true → ∀ (i : Nat) x, vs[i]? = some x → refsLt H'.length x = true := by
     intro vs
     induction vs with
     | nil => intro _ i x hx; simp at hx
     | cons u us ih =>
      intro h i x hx
      simp only [refsLt.refsLts, Bool.and_eq_true] at h
      cases i with
      | zero => simp at hx; subst hx; exact h.1
      | succ i => exact ih h.2 i x (by simpa using hx)
    exact this tm' h4 i v hv
   exact mono (ren_rel v _ hrf hr)
 ·intro b o l hb hl
  by_cases hlive : o.live = true
  ·obtain ⟨g1, g2⟩ := get b o hb hlive
   simp only [rθ, if_pos g2] at hl
   have hro : refsObj H'.length o = true := List.all_eq_true.1 h5 o (List.mem_of_getElem? hb)
   have ho := hH.obj _ _ l g1 hl
   cases o with
   | cells cs =>
    obtain ⟨C, t, fz, q1, q2, q3, q4, q5⟩ := ho
    simp only [renVs_eq, List.length_map] at q4
    refine ⟨C, t, fz, q1, q2, q3, q4, fun j v hj => ⟨mono ?_, (q5 j _ (by rw [renVs_eq, List.getElem?_map, hj]; rfl)).2⟩⟩
    exact ren_rels cs hro (fun j => C.getD (l.off + j) vundef) (fun j v hj => (q5 j _ (by rw [renVs_eq, List.getElem?_map, hj]; rfl)).1) j v hj
   | map es =>
    obtain ⟨E, cl, q1, q2, q3⟩ := ho
    simp only [List.length_map] at q2
    refine ⟨E, cl, q1, q2, fun i k v hi => ?_⟩
    have hq := q3 i k (renV ρ v) (by rw [List.getElem?_map, hi]; rfl)
    refine ⟨hq.1.mono (fun c _ hf => ⟨free c hf, rfl⟩), mono ?_⟩
    exact ren_rel v _ (by
     have := List.all_eq_true.1 hro (k, v) (List.mem_of_getElem? hi)
     exact this) hq.2
   | strIter s pos => exact ho
   | dead => trivial
  ·cases o <;> first | (exact absurd rfl hlive) | trivial
 ·intro p q op oq lp lq hp hq hpl hql htp htq hne
  obtain ⟨g1, g2⟩ := get p op hp hpl
  obtain ⟨g3, g4⟩ := get q oq hq hql
  simp only [rθ, if_pos g2] at htp
  simp only [rθ, if_pos g4] at htq
  exact hH.dist _ _ _ _ lp lq g1 g3 (by rw [renO_live]; exact hpl) (by rw [renO_live]; exact hql) htp htq (fun e => hne (i2 p q op oq hp hq hpl hql e))
 ·intro b hb
  simp only [rθ]
  rw [if_neg (by omega)]
 ·intro b o l hb hbl hl
  obtain ⟨g1, g2⟩ := get b o hb hbl
  simp only [rθ, if_pos g2] at hl
  exact hH.good _ _ l g1 (by rw [renO_live]; exact hbl) hl
theorem ren_evo {ρ : Nat → Nat} {θ0 θ : Th} {w0 w : World} {tm tm' : List AV} {H0 H H' : List AObj} {a : Act} (hw : Ren ρ H0.length tm H tm' H') (hT : TmOk θ (Free θ H) w tm a) (hH : Hp θ H w)
  (hE : EvoS θ0 H0 w0 θ H w) (h0 : Hp θ0 H0 w0) (hlen : H0.length ≤ H'.length) : EvoS θ0 H0 w0 (rθ θ ρ H'.length) H' w := by
 obtain ⟨_, _, hf⟩ := ren_step hw hT hH
 obtain ⟨i1, _⟩ := renI_get hw.inj
 refine ⟨⟨fun b l e => ?_, hE.bad, fun c hc hfr => ⟨hf c (hE.nl c hc hfr).1, (hE.nl c hc hfr).2⟩, hE.size, hE.os, hE.tape, hE.output⟩, hlen, fun b hb => by
  simp only [rθ]; rw [if_pos (by omega), i1 b (by omega) hb]; exact hE.old b hb⟩
 have hb : b < H0.length := by
  by_cases h : b < H0.length
  ·exact h
  ·rw [h0.fresh b (by omega)] at e; cases e
 simp only [rθ]
 rw [if_pos (by omega), i1 b (by omega) hb]
 exact hE.ext b l e
def RoundR {σ : Type} (n : Nat) (T : σ → List AV) (Hs : σ → List AObj) (J : σ → Prop) (μ : σ → Nat) (s : σ) (Q : CExit → List AV → List AObj → Prop) : CExit → List AV → List AObj → Prop
 | .normal, tm', H' => ∃ s', J s' ∧ μ s' < μ s ∧ ∃ ρ, Ren ρ n tm' H' (T s') (Hs s')
 | .exit i, tm', H' => Q (.exit i) tm' H'
 | .ret, tm', H' => Q .ret tm' H'
theorem loop_ren {σ : Type} (T : σ → List AV) (Hs : σ → List AObj) (J : σ → Prop) (μ : σ → Nat) {b : CC} {tm : List AV} {H : List AObj} {Q : CExit → List AV → List AObj → Prop} (s0 : σ) (h0 : J s0)
  (hw : ∃ ρ, Ren ρ H.length tm H (T s0) (Hs s0)) (hlen : ∀ s, J s → H.length ≤ (Hs s).length)
  (step : ∀ s, J s → ev (EP P Gl) b (T s) (Hs s) (RoundR H.length T Hs J μ s Q)) : LoopA P Gl b tm H Q := by
 intro code hk θ a w hT hH hG
 refine wp_loop_ghost (fun n a' w' => ∃ s θ', J s ∧ μ s = n ∧ TmOk θ' (Free θ' (Hs s)) w' (T s) a' ∧ Hp θ' (Hs s) w' ∧ EvoS θ H w θ' (Hs s) w') (μ s0) ?_ ?_
 ·obtain ⟨ρ, hw⟩ := hw
  obtain ⟨q1, q2, q3⟩ := ren_step hw hT hH
  exact ⟨s0, _, h0, rfl, q1, q2, ren_evo hw hT hH (.refl _ _ _) hH (hlen s0 h0)⟩
 ·rintro n a' w' ⟨s, θ', hs, rfl, q1, q2, q3⟩
  refine wp_mono (sound code b hk _ _ _ (step s hs) θ' a' w' q1 q2 (hG.evo q3.toEvo)) ?_
  rintro e a'' w'' ⟨ce, tm', H', θ'', r1, r2, r3, r4, r5⟩
  cases ce <;> cases e <;> simp only [exRel] at r1
  ·obtain ⟨s', j1, j2, ρ, j3⟩ := r2
   obtain ⟨p1, p2, p3⟩ := ren_step j3 r3 r4
   exact ⟨μ s', j2, s', _, j1, rfl, p1, p2, ren_evo j3 r3 r4 (q3.trans r5) hH (hlen s' j1)⟩
  ·subst r1; exact ⟨.exit _, tm', H', θ'', rfl, r2, r3, r4, q3.trans r5⟩
  ·exact ⟨.ret, tm', H', θ'', trivial, r2, r3, r4, q3.trans r5⟩
def JoinR {σ : Type} (n : Nat) (T : σ → List AV) (Hs : σ → List AObj) (J : σ → Prop) (Q : CExit → List AV → List AObj → Prop) : CExit → List AV → List AObj → Prop
 | .normal, tm', H' => ∃ s', J s' ∧ ∃ ρ, Ren ρ n tm' H' (T s') (Hs s')
 | .exit i, tm', H' => Q (.exit i) tm' H'
 | .ret, tm', H' => Q .ret tm' H'
theorem join_rule {σ : Type} (T : σ → List AV) (Hs : σ → List AObj) (J : σ → Prop) {a b : CC} {tm : List AV} {H : List AObj} {Q : CExit → List AV → List AObj → Prop} (hlen : ∀ s, J s → H.length ≤ (Hs s).length)
  (h1 : ev (EP P Gl) a tm H (JoinR H.length T Hs J Q)) (h2 : ∀ s, J s → ev (EP P Gl) b (T s) (Hs s) Q) : SeqA P Gl a b tm H Q := by
 intro ca cb ha hb θ ac w hT hH hG
 refine wp_seq (wp_mono (sound ca a ha tm H _ h1 θ ac w hT hH hG) ?_)
 rintro e a' w' ⟨ce, tm', H', θ', r1, r2, r3, r4, r5⟩
 cases ce <;> cases e <;> simp only [exRel] at r1
 ·obtain ⟨s', j1, ρ, j3⟩ := r2
  obtain ⟨p1, p2, p3⟩ := ren_step j3 r3 r4
  have hE := ren_evo j3 r3 r4 r5 hH (hlen s' j1)
  refine wp_mono (sound cb b hb _ _ _ (h2 s' j1) _ a' w' p1 p2 (hG.evo hE.toEvo)) ?_
  rintro e a'' w'' ⟨ce, tm'', H'', θ'', q1, q2, q3, q4, q5⟩
  exact ⟨ce, tm'', H'', θ'', q1, q2, q3, q4, hE.trans q5⟩
 ·subst r1; exact ⟨.exit _, tm', H', θ', rfl, r2, r3, r4, r5⟩
 ·exact ⟨.ret, tm', H', θ', trivial, r2, r3, r4, r5⟩
end
end
end Go.Av
