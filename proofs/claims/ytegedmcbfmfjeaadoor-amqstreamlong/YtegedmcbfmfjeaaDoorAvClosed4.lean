/- An abstract machine for the modelled code, and what its runs say of real calls. Part of a proof of a given statement: for every input the law returns true and the arguments read as before; no condition beyond the given row. -/
import Derived.Test.YtegedmcbfmfjeaaDoorAvClosed2
import Derived.Test.YtegedmcbfmfjeaaDoorAvDrawt
import Derived.Test.YtegedmcbfmfjeaaDoorAvMeth
import Derived.Test.YtegedmcbfmfjeaaDoorAvTrans
import Derived.Test.YtegedmcbfmfjeaaDoorAvFrame
import Derived.Test.YtegedmcbfmfjeaaDoorAvEq
namespace Go.Av
noncomputable section

structure Know2 where
 tab : Nat → Option CFunc
 known : Nat → List PV → Option PV
 meth : Nat → List PV → List PV → Option PV

def Qif (r : PV) (cells : List PV) : PV := .tuple [r, .agg cells]

def Q9u : List AObj → AV → Option PV
 | .cells cs :: rest, v => match Q6g (.dead :: rest) cs with
  | some ps => match Qcl Qhv (.dead :: rest) v with
   | some r => some (Qif r ps)
   | none => none
  | none => none
 | _, _ => none

def Q4k (kn : Know2) (E : Env (Option PV)) (f : Nat) (args : List PV) : Option PV := match kn.known f args with
 | some r => some r
 | none => match kn.tab f with
  | some cf => Q2d .p args fun args => Uf E cf args [] (fun v H => Qcl Qhv H v)
  | none => none
def Qb4 (kn : Know2) (E : Env (Option PV)) (f : Nat) (cells args : List PV) : Option PV := match kn.meth f cells args with
 | some r => some r
 | none => match kn.tab f with
  | some cf => Q2d .p args fun args => Q2d .p cells fun cells => Uf E cf (.ptr 0 0 :: args) [.cells cells] (fun v H => Q9u H v)
  | none => none

def Qiz : List AV → Option (List PV)
 | [] => some []
 | .p x :: r => match Qiz r with
  | some ps => some (x :: ps)
  | none => none
 | _ :: _ => none
theorem Qa7 : ∀ (cs : List AV) (ps : List PV), Qiz cs = some ps → cs = ps.map .p
 | [], ps, h => by simp only [Qiz] at h; cases h; rfl
 | c :: cs, ps, h => by
  cases c <;> simp only [Qiz] at h <;> try (cases h; done)
  split at h
  ·rename_i x ps' h1
   cases h
   rw [Qa7 cs ps' h1]; rfl
  ·cases h
def Q6a : List PV → Bool
 | [] => true
 | .int _ _ :: r => Q6a r
 | .bool _ :: r => Q6a r
 | .str _ :: r => Q6a r
 | _ :: _ => false
def Qi5 {α : Type} (kn : Know2) (EV : Env (Option PV)) (inl : Nat → List AV → List AObj → (AV → List AObj → α) → α) (f : Nat) (args : List AV) (H : List AObj) (k : AV → List AObj → α) : α :=
 match AV.toPVs args with
 | some pa => match Q4k kn EV f pa with
  | some r => k (.p r) H
  | none => inl f args H k
 | none => match Q6g H args with
  | some pa => match Q4k kn EV f pa with
   | some r => match Jd r with
    | true => k (.p r) H
    | false => inl f args H k
   | none => inl f args H k
  | none => match args with
  | .ptr a 0 :: rest => match AV.toPVs rest with
   | some pr => match H[a]? with
    | some (.cells cs) => match Qiz cs with
     | some cells => match Q6a cells with
      | true => match Qb4 kn EV f cells pr with
       | some (.tuple [r, .agg cells']) => k (.p r) (H.set a (.cells (cells'.map .p)))
       | _ => inl f args H k
      | false => inl f args H k
     | none => inl f args H k
    | _ => inl f args H k
   | none => inl f args H k
  | _ => inl f args H k
def Qk1 (kn : Know2) (EA : Env (Option AV)) (f : Nat) (args : List AV) (n : Nat) : Option AV := match refsLt.refsLts n args with
 | true => match kn.tab f with
  | some cf => Uf EA cf args (List.replicate n .dead) (fun v _ => some v)
  | none => none
 | false => none
def Qka (kn : Know2) (EA : Env (Option AV)) (f : Nat) (args : List AV) (H : List AObj) (R : List Nat) : Option AV := match refsLt.refsLts H.length args with
 | true => match R.all (fun a => match H[a]? with | some o => V9 H.length o | none => true) with
  | true => match kn.tab f with
   | some cf => Uf EA cf args (Q78 R H) (fun v H' => match Qdy (Q78 R H) H' with
    | true => some v
    | false => none)
   | none => none
  | false => none
 | false => none
def Qdv {α : Type} (fail : α) (kn : Know2) (EA : Env (Option AV)) (f : Nat) (args : List AV) (H : List AObj) (R : List Nat) (k : AV → List AObj → List Nat → List Nat → α) : α := match Qka kn EA f args H R with
 | some v => match refsLt H.length v with
  | true => k v H R []
  | false => fail
 | none => fail
def Q0b {α : Type} (fail : α) (kn : Know2) (EA : Env (Option AV)) (f : Nat) (args : List AV) (H : List AObj) (k : AV → List AObj → List Nat → List Nat → α) : α := match Qk1 kn EA f args H.length with
 | some v => match refsLt H.length v with
  | true => k v H [] []
  | false => fail
 | none => Qdv fail kn EA f args H (args.flatMap (Qa3 6 H)) k
def Qhj {α : Type} (fail : α) (kn : Know2) (EV : Env (Option PV)) (EA : Env (Option AV)) (f : Nat) (args : List AV) (H : List AObj) (k : AV → List AObj → List Nat → List Nat → α) : α :=
 match AV.toPVs args with
 | some pa => match Q4k kn EV f pa with
  | some r => k (.p r) H [] []
  | none => fail
 | none => match Q6g H args with
  | some pa => match Q4k kn EV f pa with
   | some r => match Jd r with
    | true => k (.p r) H (Q9a H args) []
    | false => Q0b fail kn EA f args H k
   | none => Q0b fail kn EA f args H k
  | none => match args with
  | .ptr a 0 :: rest => match AV.toPVs rest with
   | some pr => match H[a]? with
    | some (.cells cs) => match Qiz cs with
     | some cells => match Qb4 kn EV f cells pr with
      | some (.tuple [r, .agg cells']) => k (.p r) (H.set a (.cells (cells'.map .p))) [a] [a]
      | _ => Q0b fail kn EA f args H k
     | none => Q0b fail kn EA f args H k
    | _ => Q0b fail kn EA f args H k
   | none => Q0b fail kn EA f args H k
  | _ => Q0b fail kn EA f args H k

def Jj : Nat → List COper → List COper × List COper
 | _, [] => ([], [])
 | j, c :: r => match Q87 j (c :: r) with
  | true => ([], c :: r)
  | false => match Jj (j + 1) r with
   | (a, b) => (c :: a, b)
def Q6b (kn : Know2) (Gl : Nat → Option (List PV)) (N : Nat) : Nat → (β : Type) → Env (Option β)
 | 0, _ => { fail := none, cmp := ⟨Qe, rfl⟩, scmp := ⟨Q7c, rfl⟩, glob := Gl, call := fun _ _ _ _ => none, loop := fun _ _ _ _ => none, join := fun _ _ _ _ _ => none, draw := fun _ _ _ _ => none }
 | d + 1, β => Env.mk none ⟨Qe, rfl⟩ ⟨Q7c, rfl⟩ Gl
   (Qi5 kn (Q6b kn Gl N d PV) fun f args H k => match kn.tab f with
     | some cf => Uf (Q6b kn Gl N d β) cf args H k
     | none => none)
   (fun b tm H k => Q94 (Q6b kn Gl N d β) b N tm H k)
   (fun a b tm H k => ev (Q6b kn Gl N d β) a tm H fun e tm H => match e with
    | .normal => ev (Q6b kn Gl N d β) b tm H k
    | .exit i => k (.exit i) tm H
    | .ret => k .ret tm H)
   (fun ops tm H k => match Jj 0 ops with
    | (pre, suf) => W4 (Q6b kn Gl N d β) (Qhj none kn (Q6b kn Gl N d PV) (Q6b kn Gl N d AV)) (fun tm H => X5 (Q6b kn Gl N d β) k suf tm H) pre tm H 0 [])
section
variable {P : Program} {Gl : Nat → Option (List PV)} {kn : Know2}

structure KnowOk2 (P : Program) (Gl : Nat → Option (List PV)) (kn : Know2) : Prop where
 tab : ∀ f cf, kn.tab f = some cf → Qm P f cf = true
 known : ∀ f args r, kn.known f args = some r → Xw P Gl f args r
 meth : ∀ f cells args r, kn.meth f cells args = some r → ∃ x cs', r = Qif x cs' ∧ Q90 P Gl f cells args x cs'

theorem V7 (hkn : KnowOk2 P Gl kn) {E : Env (Option PV)} {f : Nat} {args : List PV} {r : PV} (hE : Hom E (EP P Gl) r) (h : Q4k kn E f args = some r) : Xw P Gl f args r := by
 unfold Q4k at h
 cases hk : kn.known f args with
 | some x => rw [hk] at h; cases h; exact hkn.known f args _ hk
 | none =>
  simp only [hk] at h
  cases ht : kn.tab f with
  | none => simp only [ht] at h; cases h
  | some cf =>
   simp only [ht, Yo] at h
   exact Qq (hkn.tab f cf ht) (Ui hE (fun v H hv => Q6c (fun _ _ _ ho => ⟨trivial, ho⟩) (Q1a Qhv v r hv)) h)

theorem Qgf {H1 H2 : List AObj} {K1 K2 : Nat → Prop} (h : ∀ a o, K1 a → H1[a]? = some o → ∀ cs, o = .cells cs → K2 a ∧ H2[a]? = some o) {v : AV} {x : PV} (hf : Frz K1 H1 v x) : Frz K2 H2 v x := by
 induction hf with
 | p x => exact .p x
 | nil esz => exact .nil esz
 | slice esz a off len cs rows hk ho hl hr hn hv ih =>
  obtain ⟨k1, k2⟩ := h a _ hk ho cs rfl
  exact .slice esz a off len cs rows k1 k2 hl hr hn ih
 | agg cs ps hn _ ih => exact .agg cs ps hn ih
 | tuple cs ps hn _ ih => exact .tuple cs ps hn ih
 | func fn a b a' b' n1 _ n2 _ ih1 ih2 => exact .func fn a b a' b' n1 ih1 n2 ih2
 | iface t v x _ ih => exact .iface t v x ih

theorem Q82 {H : List AObj} {v : AV} {x : PV} (h : Q9u H v = some x) : ∃ r cs', x = Qif r cs' ∧ ∃ cs rest, H = .cells cs :: rest ∧ FrzL (fun a => a ≠ 0) H cs cs' ∧ Frz (fun a => a ≠ 0) H v r := by
 unfold Q9u at h
 split at h
 ·rename_i cs rest
  split at h
  ·rename_i ps h1
   split at h
   ·rename_i r h2
    cases h
    have key : ∀ {K : Nat → Prop} {v : AV} {x : PV}, Frz K (AObj.dead :: rest) v x → Frz (fun a => a ≠ 0) (AObj.cells cs :: rest) v x := by
     intro K v x hf
     refine Qgf (fun a o _ ho cs' hc => ?_) hf
     cases a with
     | zero => simp at ho; rw [← ho] at hc; cases hc
     | succ a => exact ⟨by simp, by simpa using ho⟩
    have q := Jp _ _ h1
    exact ⟨r, ps, rfl, cs, rest, rfl, ⟨q.1, fun i v x hv hx => key (q.2 i v x hv hx)⟩, key (Q1a Qhv _ _ h2)⟩
   ·cases h
  ·cases h
 ·cases h

theorem Q22 (hkn : KnowOk2 P Gl kn) {E : Env (Option PV)} {f : Nat} {cells args : List PV} {x : PV} {cs' : List PV} (hE : Hom E (EP P Gl) (Qif x cs')) (h : Qb4 kn E f cells args = some (Qif x cs')) : Q90 P Gl f cells args x cs' := by
 unfold Qb4 at h
 cases hk : kn.meth f cells args with
 | some y =>
  rw [hk] at h; cases h
  obtain ⟨y, cs'', e, q⟩ := hkn.meth f cells args _ hk
  simp only [Qif, PV.tuple.injEq, List.cons.injEq, PV.agg.injEq, and_true] at e
  obtain ⟨rfl, rfl⟩ := e
  exact q
 | none =>
  simp only [hk] at h
  cases ht : kn.tab f with
  | none => simp only [ht] at h; cases h
  | some cf =>
   simp only [ht, Yo] at h
   refine Xy (hkn.tab f cf ht) (Ui hE (fun v H hv => ?_) h)
   obtain ⟨y', cs'', e, q⟩ := Q82 hv
   simp only [Qif, PV.tuple.injEq, List.cons.injEq, PV.agg.injEq, and_true] at e
   obtain ⟨rfl, rfl⟩ := e
   exact q

theorem Qee (hkn : KnowOk2 P Gl kn) {β : Type} {EV : Env (Option PV)} (hEV : ∀ r, Hom EV (EP P Gl) r) {r : β} {inl : Nat → List AV → List AObj → (AV → List AObj → Option β) → Option β} {f : Nat} {args : List AV} {H : List AObj}
  {kO : AV → List AObj → Option β} {kP : AV → List AObj → Prop} (hk : ∀ v H', kO v H' = some r → kP v H') (hinl : inl f args H kO = some r → Y4 P Gl f args H kP) (he : Qi5 kn EV inl f args H kO = some r) : Y4 P Gl f args H kP := by
 unfold Qi5 at he
 split at he
 ·rename_i pa h1
  split at he
  ·rename_i x h2
   exact Xr (V7 hkn (hEV x) h2) (Wm args pa h1) (hk _ _ he)
  ·exact hinl he
 split at he
 ·rename_i pa h1
  split at he
  ·rename_i x h2
   split at he
   ·rename_i h3
    have q := Jp args pa h1
    exact Q3l (V7 hkn (hEV x) h2) ⟨q.1, fun i v x hv hx => Q6c (fun a o _ ho => ⟨trivial, ho⟩) (q.2 i v x hv hx)⟩ h3 (hk _ _ he)
   ·exact hinl he
  ·exact hinl he
 ·split at he
  ·rename_i a rest _ _
   split at he
   ·rename_i pr h1
    split at he
    ·rename_i cs ha
     split at he
     ·rename_i cells hc
      split at he
      ·split at he
       ·rename_i x cells' h2
        exact Q1c (Q22 hkn (hEV _) h2) (by rw [ha, Qa7 _ _ hc]) (Wm rest pr h1) (hk _ _ he)
       ·exact hinl he
      ·exact hinl he
     ·exact hinl he
    ·exact hinl he
   ·exact hinl he
  ·exact hinl he

theorem Qbx (hkn : KnowOk2 P Gl kn) {β : Type} {EA : Env (Option AV)} (hEA : ∀ r, Hom EA (EP P Gl) r) {r : β} {f : Nat} {args : List AV} {H : List AObj} {R : List Nat}
  {kO : AV → List AObj → List Nat → List Nat → Option β} {kP : AV → List AObj → List Nat → List Nat → Prop} (hk : ∀ v H' R A, kO v H' R A = some r → kP v H' R A) (he : Qdv none kn EA f args H R kO = some r) : X4 P Gl f args H kP := by
 unfold Qdv at he
 split at he
 ·rename_i v hv
  unfold Qka at hv
  split at hv
  ·rename_i h1
   split at hv
   ·rename_i h2
    split at hv
    ·rename_i cf hcf
     split at he
     ·rename_i hr
      have hc : Y4 P Gl f args (Q78 R H) (fun v0 H' => v0 = v ∧ ∃ rest, H' = Q78 R H ++ rest) := Xd (hkn.tab f cf hcf) (Ui (hEA v) (fun v0 H' h => by
       split at h
       ·rename_i hp; cases h; exact ⟨rfl, Qb1 _ _ hp⟩
       ·cases h) hv)
      refine Vy R h1 hr (fun a ha o ho => ?_) hc (hk _ _ _ _ he)
      have := List.all_eq_true.1 h2 a ha
      rw [ho] at this; exact this
     ·cases he
    ·cases hv
   ·cases hv
  ·cases hv
 ·cases he
theorem Wy (hkn : KnowOk2 P Gl kn) {β : Type} {EA : Env (Option AV)} (hEA : ∀ r, Hom EA (EP P Gl) r) {r : β} {f : Nat} {args : List AV} {H : List AObj}
  {kO : AV → List AObj → List Nat → List Nat → Option β} {kP : AV → List AObj → List Nat → List Nat → Prop} (hk : ∀ v H' R A, kO v H' R A = some r → kP v H' R A) (he : Q0b none kn EA f args H kO = some r) : X4 P Gl f args H kP := by
 unfold Q0b at he
 split at he
 ·rename_i v hv
  unfold Qk1 at hv
  split at hv
  ·rename_i h1
   split at hv
   ·rename_i cf hcf
    split at he
    ·rename_i hr
     have hc : Y4 P Gl f args (List.replicate H.length .dead) (fun v0 _ => v0 = v) := Xd (hkn.tab f cf hcf) (Ui (hEA v) (fun v0 H' h => by cases h; rfl) hv)
     exact ⟨[], [], v, fun s h => (by cases h), fun H2 _ => Q1j (Qci h1 hr hc H2) (fun v' H' ⟨e1, e2⟩ => ⟨e1, e2⟩), hk _ _ _ _ he⟩
    ·cases he
   ·cases hv
  ·cases hv
 ·exact Qbx hkn hEA hk he
theorem Q8d (hkn : KnowOk2 P Gl kn) {β : Type} {EV : Env (Option PV)} (hEV : ∀ r, Hom EV (EP P Gl) r) {EA : Env (Option AV)} (hEA : ∀ r, Hom EA (EP P Gl) r) {r : β} {f : Nat} {args : List AV} {H : List AObj}
  {kO : AV → List AObj → List Nat → List Nat → Option β} {kP : AV → List AObj → List Nat → List Nat → Prop} (hk : ∀ v H' R A, kO v H' R A = some r → kP v H' R A) (he : Qhj none kn EV EA f args H kO = some r) : X4 P Gl f args H kP := by
 unfold Qhj at he
 split at he
 ·rename_i pa h1
  split at he
  ·rename_i x h2
   have hp := V7 hkn (hEV x) h2
   exact ⟨[], [], .p x, fun s h => (by cases h), fun H2 _ => Xr hp (Wm args pa h1) ⟨rfl, rfl⟩, hk _ _ _ _ he⟩
  ·cases he
 split at he
 ·rename_i pa h1
  split at he
  ·rename_i x h2
   split at he
   ·rename_i h3
    have q := Jp args pa h1
    have hp := V7 hkn (hEV x) h2
    exact ⟨Q9a H args, [], .p x, fun s h => (by cases h), fun H2 hH2 => Q3l hp ⟨q.1, fun i v x hv hx => Q6c (fun a o hk ho => ⟨trivial, hH2 a hk o ho⟩) (q.2 i v x hv hx)⟩ h3 ⟨rfl, rfl⟩, hk _ _ _ _ he⟩
   ·exact Wy hkn hEA hk he
  ·exact Wy hkn hEA hk he
 ·split at he
  ·rename_i a rest _ _
   split at he
   ·rename_i pr h1
    split at he
    ·rename_i cs ha
     split at he
     ·rename_i cells hc
      split at he
      ·rename_i x cells' h2
       have hm := Q22 hkn (hEV _) h2
       refine ⟨[a], [(a, .cells (cells'.map .p))], .p x, fun s hs => ?_, fun H2 hH2 => ?_, hk _ _ _ _ he⟩
       ·simp at hs; subst hs; exact (List.getElem?_eq_some_iff.1 ha).1
       ·refine Q1c hm ?_ (Wm rest pr h1) ⟨rfl, rfl⟩
        rw [hH2 a (by simp) _ ha, Qa7 _ _ hc]
      ·exact Wy hkn hEA hk he
     ·exact Wy hkn hEA hk he
    ·exact Wy hkn hEA hk he
   ·exact Wy hkn hEA hk he
  ·exact Wy hkn hEA hk he

theorem Q3n : ∀ (cs : List COper) (j : Nat), cs = (Jj j cs).1 ++ (Jj j cs).2 ∧ Q87 (j + (Jj j cs).1.length) (Jj j cs).2 = true
 | [], j => ⟨rfl, rfl⟩
 | c :: r, j => by
  simp only [Jj]
  split
  ·rename_i ht; exact ⟨rfl, ht⟩
  ·obtain ⟨h1, h2⟩ := Q3n r (j + 1)
   refine ⟨by simp only [List.cons_append]; rw [← h1], ?_⟩
   rw [List.length_cons, show j + ((Jj (j + 1) r).1.length + 1) = j + 1 + (Jj (j + 1) r).1.length by omega]; exact h2
theorem Qat (hkn : KnowOk2 P Gl kn) (N : Nat) : ∀ (d : Nat) (β : Type) (r : β), Hom (Q6b kn Gl N d β) (EP P Gl) r
 | 0, β, r => ⟨rfl, rfl, fun f a H kO kP hk he => (by simp only [Q6b] at he; cases he), fun b tm H kO kP hk he => (by simp only [Q6b] at he; cases he), fun a b tm H kO kP hk he => (by simp only [Q6b] at he; cases he), fun b tm H kO kP hk he => (by simp only [Q6b] at he; cases he)⟩
 | d + 1, β, r => by
  have ih := Qat hkn N d
  refine ⟨rfl, rfl, fun f a H kO kP hk he => ?_, fun b tm H kO kP hk he => ?_, fun a b tm H kO kP hk he => ?_, fun ops tm H kO kP hk he => ?_⟩
  ·simp only [Q6b] at he
   refine Qee hkn (ih PV) hk (fun he => ?_) he
   cases ht : kn.tab f with
   | none => simp only [ht] at he; cases he
   | some cf =>
    simp only [ht] at he
    exact Xd (hkn.tab f cf ht) (Ui (ih β r) hk he)
  ·simp only [Q6b] at he
   exact Q9f N (Q7e (ih β r) hk N tm H he)
  ·simp only [Q6b] at he
   refine Q2v (Q12 (ih β r) a tm H _ _ (fun e v H' hv => ?_) he)
   cases e with
   | normal => exact Q12 (ih β r) b v H' kO kP hk hv
   | exit i => exact hk _ _ _ hv
   | ret => exact hk _ _ _ hv
  ·simp only [Q6b] at he
   obtain ⟨h1, h2⟩ := Q3n ops 0
   rw [Nat.zero_add] at h2
   generalize (Jj 0 ops).1 = pre at he h1 h2
   generalize (Jj 0 ops).2 = suf at he h1 h2
   subst h1
   cases suf with
   | nil =>
    rw [List.append_nil]
    exact Q9 (Gi (dP := X4 P Gl) (ih β r) (fun f a H kO kP hk he => Q8d hkn (ih PV) (ih AV) hk he) hk pre tm H 0 [] he)
   | cons c0 suf => exact Qdk h2 (Gi (dP := X4 P Gl) (ih β r) (fun f a H kO kP hk he => Q8d hkn (ih PV) (ih AV) hk he) (fun tm' H' hv => Q0c (ih β r) hk _ tm' H' hv) pre tm H 0 [] he)

theorem Q8z (hkn : KnowOk2 P Gl kn) {N d : Nat} {f : Nat} {args : List PV} {r : PV} (h : Q4k kn (Q6b kn Gl N d PV) f args = some r) : Xw P Gl f args r :=
 V7 hkn (Qat hkn N d PV r) h
end
end
end Go.Av
