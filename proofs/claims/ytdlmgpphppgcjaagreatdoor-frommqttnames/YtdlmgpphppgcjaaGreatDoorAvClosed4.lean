/- An abstract machine for the modelled code, and what its runs say of real calls. Part of a proof of a given statement: for every input the law returns true and the arguments read as before; no condition beyond the given row. -/
import Derived.Test.YtdlmgpphppgcjaaGreatDoorAvClosed2
import Derived.Test.YtdlmgpphppgcjaaGreatDoorAvDrawt
import Derived.Test.YtdlmgpphppgcjaaGreatDoorAvMeth
import Derived.Test.YtdlmgpphppgcjaaGreatDoorAvTrans
import Derived.Test.YtdlmgpphppgcjaaGreatDoorAvFrame
import Derived.Test.YtdlmgpphppgcjaaGreatDoorAvEq
namespace Go.Av
noncomputable section

structure Know2 where
 tab : Nat → Option CFunc
 known : Nat → List PV → Option PV
 meth : Nat → List PV → List PV → Option PV

def Q6h (r : PV) (cells : List PV) : PV := .tuple [r, .agg cells]

def Q0x : List AObj → AV → Option PV
 | .cells cs :: rest, v => match Jl (.dead :: rest) cs with
  | some ps => match Q32 Q6p (.dead :: rest) v with
   | some r => some (Q6h r ps)
   | none => none
  | none => none
 | _, _ => none

def Vo (kn : Know2) (E : Env (Option PV)) (f : Nat) (args : List PV) : Option PV := match kn.known f args with
 | some r => some r
 | none => match kn.tab f with
  | some cf => Vc .p args fun args => Yn E cf args [] (fun v H => Q32 Q6p H v)
  | none => none
def Q20 (kn : Know2) (E : Env (Option PV)) (f : Nat) (cells args : List PV) : Option PV := match kn.meth f cells args with
 | some r => some r
 | none => match kn.tab f with
  | some cf => Vc .p args fun args => Vc .p cells fun cells => Yn E cf (.ptr 0 0 :: args) [.cells cells] (fun v H => Q0x H v)
  | none => none

def Q6y : List AV → Option (List PV)
 | [] => some []
 | .p x :: r => match Q6y r with
  | some ps => some (x :: ps)
  | none => none
 | _ :: _ => none
theorem Q0y : ∀ (cs : List AV) (ps : List PV), Q6y cs = some ps → cs = ps.map .p
 | [], ps, h => by simp only [Q6y] at h; cases h; rfl
 | c :: cs, ps, h => by
  cases c <;> simp only [Q6y] at h <;> try (cases h; done)
  split at h
  ·rename_i x ps' h1
   cases h
   rw [Q0y cs ps' h1]; rfl
  ·cases h
def Jf : List PV → Bool
 | [] => true
 | .int _ _ :: r => Jf r
 | .bool _ :: r => Jf r
 | .str _ :: r => Jf r
 | _ :: _ => false
def Q6s {α : Type} (kn : Know2) (EV : Env (Option PV)) (inl : Nat → List AV → List AObj → (AV → List AObj → α) → α) (f : Nat) (args : List AV) (H : List AObj) (k : AV → List AObj → α) : α :=
 match AV.toPVs args with
 | some pa => match Vo kn EV f pa with
  | some r => k (.p r) H
  | none => inl f args H k
 | none => match Jl H args with
  | some pa => match Vo kn EV f pa with
   | some r => match Yr r with
    | true => k (.p r) H
    | false => inl f args H k
   | none => inl f args H k
  | none => match args with
  | .ptr a 0 :: rest => match AV.toPVs rest with
   | some pr => match H[a]? with
    | some (.cells cs) => match Q6y cs with
     | some cells => match Jf cells with
      | true => match Q20 kn EV f cells pr with
       | some (.tuple [r, .agg cells']) => k (.p r) (H.set a (.cells (cells'.map .p)))
       | _ => inl f args H k
      | false => inl f args H k
     | none => inl f args H k
    | _ => inl f args H k
   | none => inl f args H k
  | _ => inl f args H k
def Q7b (kn : Know2) (EA : Env (Option AV)) (f : Nat) (args : List AV) (n : Nat) : Option AV := match refsLt.refsLts n args with
 | true => match kn.tab f with
  | some cf => Yn EA cf args (List.replicate n .dead) (fun v _ => some v)
  | none => none
 | false => none
def Q7e (kn : Know2) (EA : Env (Option AV)) (f : Nat) (args : List AV) (H : List AObj) (R : List Nat) : Option AV := match refsLt.refsLts H.length args with
 | true => match R.all (fun a => match H[a]? with | some o => G3 H.length o | none => true) with
  | true => match kn.tab f with
   | some cf => Yn EA cf args (G8 R H) (fun v H' => match Q45 (G8 R H) H' with
    | true => some v
    | false => none)
   | none => none
  | false => none
 | false => none
def Q3k {α : Type} (fail : α) (kn : Know2) (EA : Env (Option AV)) (f : Nat) (args : List AV) (H : List AObj) (R : List Nat) (k : AV → List AObj → List Nat → List Nat → α) : α := match Q7e kn EA f args H R with
 | some v => match refsLt H.length v with
  | true => k v H R []
  | false => fail
 | none => fail
def W4 {α : Type} (fail : α) (kn : Know2) (EA : Env (Option AV)) (f : Nat) (args : List AV) (H : List AObj) (k : AV → List AObj → List Nat → List Nat → α) : α := match Q7b kn EA f args H.length with
 | some v => match refsLt H.length v with
  | true => k v H [] []
  | false => fail
 | none => Q3k fail kn EA f args H (args.flatMap (Q0w 6 H)) k
def Q6o {α : Type} (fail : α) (kn : Know2) (EV : Env (Option PV)) (EA : Env (Option AV)) (f : Nat) (args : List AV) (H : List AObj) (k : AV → List AObj → List Nat → List Nat → α) : α :=
 match AV.toPVs args with
 | some pa => match Vo kn EV f pa with
  | some r => k (.p r) H [] []
  | none => fail
 | none => match Jl H args with
  | some pa => match Vo kn EV f pa with
   | some r => match Yr r with
    | true => k (.p r) H (Q19 H args) []
    | false => W4 fail kn EA f args H k
   | none => W4 fail kn EA f args H k
  | none => match args with
  | .ptr a 0 :: rest => match AV.toPVs rest with
   | some pr => match H[a]? with
    | some (.cells cs) => match Q6y cs with
     | some cells => match Q20 kn EV f cells pr with
      | some (.tuple [r, .agg cells']) => k (.p r) (H.set a (.cells (cells'.map .p))) [a] [a]
      | _ => W4 fail kn EA f args H k
     | none => W4 fail kn EA f args H k
    | _ => W4 fail kn EA f args H k
   | none => W4 fail kn EA f args H k
  | _ => W4 fail kn EA f args H k

def Yx : Nat → List COper → List COper × List COper
 | _, [] => ([], [])
 | j, c :: r => match Q2k j (c :: r) with
  | true => ([], c :: r)
  | false => match Yx (j + 1) r with
   | (a, b) => (c :: a, b)
def Jz (kn : Know2) (Gl : Nat → Option (List PV)) (N : Nat) : Nat → (β : Type) → Env (Option β)
 | 0, _ => { fail := none, cmp := ⟨Q5o, rfl⟩, scmp := ⟨Q5y, rfl⟩, glob := Gl, call := fun _ _ _ _ => none, loop := fun _ _ _ _ => none, join := fun _ _ _ _ _ => none, draw := fun _ _ _ _ => none }
 | d + 1, β => Env.mk none ⟨Q5o, rfl⟩ ⟨Q5y, rfl⟩ Gl
   (Q6s kn (Jz kn Gl N d PV) fun f args H k => match kn.tab f with
     | some cf => Yn (Jz kn Gl N d β) cf args H k
     | none => none)
   (fun b tm H k => Q10 (Jz kn Gl N d β) b N tm H k)
   (fun a b tm H k => ev (Jz kn Gl N d β) a tm H fun e tm H => match e with
    | .normal => ev (Jz kn Gl N d β) b tm H k
    | .exit i => k (.exit i) tm H
    | .ret => k .ret tm H)
   (fun ops tm H k => match Yx 0 ops with
    | (pre, suf) => Z1 (Jz kn Gl N d β) (Q6o none kn (Jz kn Gl N d PV) (Jz kn Gl N d AV)) (fun tm H => Zy (Jz kn Gl N d β) k suf tm H) pre tm H 0 [])
section
variable {P : Program} {Gl : Nat → Option (List PV)} {kn : Know2}

structure KnowOk2 (P : Program) (Gl : Nat → Option (List PV)) (kn : Know2) : Prop where
 tab : ∀ f cf, kn.tab f = some cf → Q0 P f cf = true
 known : ∀ f args r, kn.known f args = some r → Q4y P Gl f args r
 meth : ∀ f cells args r, kn.meth f cells args = some r → ∃ x cs', r = Q6h x cs' ∧ Q73 P Gl f cells args x cs'

theorem Zg (hkn : KnowOk2 P Gl kn) {E : Env (Option PV)} {f : Nat} {args : List PV} {r : PV} (hE : Hom E (EP P Gl) r) (h : Vo kn E f args = some r) : Q4y P Gl f args r := by
 unfold Vo at h
 cases hk : kn.known f args with
 | some x => rw [hk] at h; cases h; exact hkn.known f args _ hk
 | none =>
  simp only [hk] at h
  cases ht : kn.tab f with
  | none => simp only [ht] at h; cases h
  | some cf =>
   simp only [ht, Qm] at h
   exact Q2u (hkn.tab f cf ht) (Y8 hE (fun v H hv => Gr (fun _ _ _ ho => ⟨trivial, ho⟩) (W3 Q6p v r hv)) h)

theorem Q4u {H1 H2 : List AObj} {K1 K2 : Nat → Prop} (h : ∀ a o, K1 a → H1[a]? = some o → o ≠ .dead → K2 a ∧ H2[a]? = some o) {v : AV} {x : PV} (hf : Frz K1 H1 v x) : Frz K2 H2 v x := by
 induction hf with
 | p x => exact .p x
 | nil esz => exact .nil esz
 | zero esz => exact .zero esz
 | slice esz a off len cs rows hk ho hl hr hn hv ih =>
  obtain ⟨k1, k2⟩ := h a _ hk ho (by simp)
  exact .slice esz a off len cs rows k1 k2 hl hr hn ih
 | agg cs ps hn _ ih => exact .agg cs ps hn ih
 | tuple cs ps hn _ ih => exact .tuple cs ps hn ih
 | func fn a b a' b' n1 _ n2 _ ih1 ih2 => exact .func fn a b a' b' n1 ih1 n2 ih2
 | iface t v x _ ih => exact .iface t v x ih
 | map r es ps hk ho hn hkk _ ih =>
  obtain ⟨k1, k2⟩ := h r _ hk ho (by simp)
  exact .map r es ps k1 k2 hn hkk ih

theorem Gh {H : List AObj} {v : AV} {x : PV} (h : Q0x H v = some x) : ∃ r cs', x = Q6h r cs' ∧ ∃ cs rest, H = .cells cs :: rest ∧ FrzL (fun a => a ≠ 0) H cs cs' ∧ Frz (fun a => a ≠ 0) H v r := by
 unfold Q0x at h
 split at h
 ·rename_i cs rest
  split at h
  ·rename_i ps h1
   split at h
   ·rename_i r h2
    cases h
    have key : ∀ {K : Nat → Prop} {v : AV} {x : PV}, Frz K (AObj.dead :: rest) v x → Frz (fun a => a ≠ 0) (AObj.cells cs :: rest) v x := by
     intro K v x hf
     refine Q4u (fun a o _ ho hc => ?_) hf
     cases a with
     | zero => simp at ho; exact absurd ho.symm hc
     | succ a => exact ⟨by simp, by simpa using ho⟩
    have q := Yu _ _ h1
    exact ⟨r, ps, rfl, cs, rest, rfl, ⟨q.1, fun i v x hv hx => key (q.2 i v x hv hx)⟩, key (W3 Q6p _ _ h2)⟩
   ·cases h
  ·cases h
 ·cases h

theorem V4 (hkn : KnowOk2 P Gl kn) {E : Env (Option PV)} {f : Nat} {cells args : List PV} {x : PV} {cs' : List PV} (hE : Hom E (EP P Gl) (Q6h x cs')) (h : Q20 kn E f cells args = some (Q6h x cs')) : Q73 P Gl f cells args x cs' := by
 unfold Q20 at h
 cases hk : kn.meth f cells args with
 | some y =>
  rw [hk] at h; cases h
  obtain ⟨y, cs'', e, q⟩ := hkn.meth f cells args _ hk
  simp only [Q6h, PV.tuple.injEq, List.cons.injEq, PV.agg.injEq, and_true] at e
  obtain ⟨rfl, rfl⟩ := e
  exact q
 | none =>
  simp only [hk] at h
  cases ht : kn.tab f with
  | none => simp only [ht] at h; cases h
  | some cf =>
   simp only [ht, Qm] at h
   refine Q2i (hkn.tab f cf ht) (Y8 hE (fun v H hv => ?_) h)
   obtain ⟨y', cs'', e, q⟩ := Gh hv
   simp only [Q6h, PV.tuple.injEq, List.cons.injEq, PV.agg.injEq, and_true] at e
   obtain ⟨rfl, rfl⟩ := e
   exact q

theorem Q3r (hkn : KnowOk2 P Gl kn) {β : Type} {EV : Env (Option PV)} (hEV : ∀ r, Hom EV (EP P Gl) r) {r : β} {inl : Nat → List AV → List AObj → (AV → List AObj → Option β) → Option β} {f : Nat} {args : List AV} {H : List AObj}
  {kO : AV → List AObj → Option β} {kP : AV → List AObj → Prop} (hk : ∀ v H', kO v H' = some r → kP v H') (hinl : inl f args H kO = some r → Qz P Gl f args H kP) (he : Q6s kn EV inl f args H kO = some r) : Qz P Gl f args H kP := by
 unfold Q6s at he
 split at he
 ·rename_i pa h1
  split at he
  ·rename_i x h2
   exact Q0d (Zg hkn (hEV x) h2) (Z9 args pa h1) (hk _ _ he)
  ·exact hinl he
 split at he
 ·rename_i pa h1
  split at he
  ·rename_i x h2
   split at he
   ·rename_i h3
    have q := Yu args pa h1
    exact Gp (Zg hkn (hEV x) h2) ⟨q.1, fun i v x hv hx => Gr (fun a o _ ho => ⟨trivial, ho⟩) (q.2 i v x hv hx)⟩ h3 (hk _ _ he)
   ·exact hinl he
  ·exact hinl he
 ·split at he
  ·rename_i a rest _ _
   split at he
   ·rename_i pr h1
    split at he
    ·rename_i cs ha
     split at he
     ·rename_i cells hc
      split at he
      ·split at he
       ·rename_i x cells' h2
        exact Q05 (V4 hkn (hEV _) h2) (by rw [ha, Q0y _ _ hc]) (Z9 rest pr h1) (hk _ _ he)
       ·exact hinl he
      ·exact hinl he
     ·exact hinl he
    ·exact hinl he
   ·exact hinl he
  ·exact hinl he

theorem Q35 (hkn : KnowOk2 P Gl kn) {β : Type} {EA : Env (Option AV)} (hEA : ∀ r, Hom EA (EP P Gl) r) {r : β} {f : Nat} {args : List AV} {H : List AObj} {R : List Nat}
  {kO : AV → List AObj → List Nat → List Nat → Option β} {kP : AV → List AObj → List Nat → List Nat → Prop} (hk : ∀ v H' R A, kO v H' R A = some r → kP v H' R A) (he : Q3k none kn EA f args H R kO = some r) : Y4 P Gl f args H kP := by
 unfold Q3k at he
 split at he
 ·rename_i v hv
  unfold Q7e at hv
  split at hv
  ·rename_i h1
   split at hv
   ·rename_i h2
    split at hv
    ·rename_i cf hcf
     split at he
     ·rename_i hr
      have hc : Qz P Gl f args (G8 R H) (fun v0 H' => v0 = v ∧ ∃ rest, H' = G8 R H ++ rest) := Gg (hkn.tab f cf hcf) (Y8 (hEA v) (fun v0 H' h => by
       split at h
       ·rename_i hp; cases h; exact ⟨rfl, Q1t _ _ hp⟩
       ·cases h) hv)
      refine Q1b R h1 hr (fun a ha o ho => ?_) hc (hk _ _ _ _ he)
      have := List.all_eq_true.1 h2 a ha
      rw [ho] at this; exact this
     ·cases he
    ·cases hv
   ·cases hv
  ·cases hv
 ·cases he
theorem Zf (hkn : KnowOk2 P Gl kn) {β : Type} {EA : Env (Option AV)} (hEA : ∀ r, Hom EA (EP P Gl) r) {r : β} {f : Nat} {args : List AV} {H : List AObj}
  {kO : AV → List AObj → List Nat → List Nat → Option β} {kP : AV → List AObj → List Nat → List Nat → Prop} (hk : ∀ v H' R A, kO v H' R A = some r → kP v H' R A) (he : W4 none kn EA f args H kO = some r) : Y4 P Gl f args H kP := by
 unfold W4 at he
 split at he
 ·rename_i v hv
  unfold Q7b at hv
  split at hv
  ·rename_i h1
   split at hv
   ·rename_i cf hcf
    split at he
    ·rename_i hr
     have hc : Qz P Gl f args (List.replicate H.length .dead) (fun v0 _ => v0 = v) := Gg (hkn.tab f cf hcf) (Y8 (hEA v) (fun v0 H' h => by cases h; rfl) hv)
     exact ⟨[], [], v, fun s h => (by cases h), fun H2 _ => Wq (Q2m h1 hr hc H2) (fun v' H' ⟨e1, e2⟩ => ⟨e1, e2⟩), hk _ _ _ _ he⟩
    ·cases he
   ·cases hv
  ·cases hv
 ·exact Q35 hkn hEA hk he
theorem Q02 (hkn : KnowOk2 P Gl kn) {β : Type} {EV : Env (Option PV)} (hEV : ∀ r, Hom EV (EP P Gl) r) {EA : Env (Option AV)} (hEA : ∀ r, Hom EA (EP P Gl) r) {r : β} {f : Nat} {args : List AV} {H : List AObj}
  {kO : AV → List AObj → List Nat → List Nat → Option β} {kP : AV → List AObj → List Nat → List Nat → Prop} (hk : ∀ v H' R A, kO v H' R A = some r → kP v H' R A) (he : Q6o none kn EV EA f args H kO = some r) : Y4 P Gl f args H kP := by
 unfold Q6o at he
 split at he
 ·rename_i pa h1
  split at he
  ·rename_i x h2
   have hp := Zg hkn (hEV x) h2
   exact ⟨[], [], .p x, fun s h => (by cases h), fun H2 _ => Q0d hp (Z9 args pa h1) ⟨rfl, rfl⟩, hk _ _ _ _ he⟩
  ·cases he
 split at he
 ·rename_i pa h1
  split at he
  ·rename_i x h2
   split at he
   ·rename_i h3
    have q := Yu args pa h1
    have hp := Zg hkn (hEV x) h2
    exact ⟨Q19 H args, [], .p x, fun s h => (by cases h), fun H2 hH2 => Gp hp ⟨q.1, fun i v x hv hx => Gr (fun a o hk ho => ⟨trivial, hH2 a hk o ho⟩) (q.2 i v x hv hx)⟩ h3 ⟨rfl, rfl⟩, hk _ _ _ _ he⟩
   ·exact Zf hkn hEA hk he
  ·exact Zf hkn hEA hk he
 ·split at he
  ·rename_i a rest _ _
   split at he
   ·rename_i pr h1
    split at he
    ·rename_i cs ha
     split at he
     ·rename_i cells hc
      split at he
      ·rename_i x cells' h2
       have hm := V4 hkn (hEV _) h2
       refine ⟨[a], [(a, .cells (cells'.map .p))], .p x, fun s hs => ?_, fun H2 hH2 => ?_, hk _ _ _ _ he⟩
       ·simp at hs; subst hs; exact (List.getElem?_eq_some_iff.1 ha).1
       ·refine Q05 hm ?_ (Z9 rest pr h1) ⟨rfl, rfl⟩
        rw [hH2 a (by simp) _ ha, Q0y _ _ hc]
      ·exact Zf hkn hEA hk he
     ·exact Zf hkn hEA hk he
    ·exact Zf hkn hEA hk he
   ·exact Zf hkn hEA hk he
  ·exact Zf hkn hEA hk he

theorem Vv : ∀ (cs : List COper) (j : Nat), cs = (Yx j cs).1 ++ (Yx j cs).2 ∧ Q2k (j + (Yx j cs).1.length) (Yx j cs).2 = true
 | [], j => ⟨rfl, rfl⟩
 | c :: r, j => by
  simp only [Yx]
  split
  ·rename_i ht; exact ⟨rfl, ht⟩
  ·obtain ⟨h1, h2⟩ := Vv r (j + 1)
   refine ⟨by simp only [List.cons_append]; rw [← h1], ?_⟩
   rw [List.length_cons, show j + ((Yx (j + 1) r).1.length + 1) = j + 1 + (Yx (j + 1) r).1.length by omega]; exact h2
theorem Q1v (hkn : KnowOk2 P Gl kn) (N : Nat) : ∀ (d : Nat) (β : Type) (r : β), Hom (Jz kn Gl N d β) (EP P Gl) r
 | 0, β, r => ⟨rfl, rfl, fun f a H kO kP hk he => (by simp only [Jz] at he; cases he), fun b tm H kO kP hk he => (by simp only [Jz] at he; cases he), fun a b tm H kO kP hk he => (by simp only [Jz] at he; cases he), fun b tm H kO kP hk he => (by simp only [Jz] at he; cases he)⟩
 | d + 1, β, r => by
  have ih := Q1v hkn N d
  refine ⟨rfl, rfl, fun f a H kO kP hk he => ?_, fun b tm H kO kP hk he => ?_, fun a b tm H kO kP hk he => ?_, fun ops tm H kO kP hk he => ?_⟩
  ·simp only [Jz] at he
   refine Q3r hkn (ih PV) hk (fun he => ?_) he
   cases ht : kn.tab f with
   | none => simp only [ht] at he; cases he
   | some cf =>
    simp only [ht] at he
    exact Gg (hkn.tab f cf ht) (Y8 (ih β r) hk he)
  ·simp only [Jz] at he
   exact Q0r N (Q06 (ih β r) hk N tm H he)
  ·simp only [Jz] at he
   refine Q59 (Xw (ih β r) a tm H _ _ (fun e v H' hv => ?_) he)
   cases e with
   | normal => exact Xw (ih β r) b v H' kO kP hk hv
   | exit i => exact hk _ _ _ hv
   | ret => exact hk _ _ _ hv
  ·simp only [Jz] at he
   obtain ⟨h1, h2⟩ := Vv ops 0
   rw [Nat.zero_add] at h2
   generalize (Yx 0 ops).1 = pre at he h1 h2
   generalize (Yx 0 ops).2 = suf at he h1 h2
   subst h1
   cases suf with
   | nil =>
    rw [List.append_nil]
    exact Q41 (X3 (dP := Y4 P Gl) (ih β r) (fun f a H kO kP hk he => Q02 hkn (ih PV) (ih AV) hk he) hk pre tm H 0 [] he)
   | cons c0 suf => exact Q3a h2 (X3 (dP := Y4 P Gl) (ih β r) (fun f a H kO kP hk he => Q02 hkn (ih PV) (ih AV) hk he) (fun tm' H' hv => W6 (ih β r) hk _ tm' H' hv) pre tm H 0 [] he)

theorem Q0h (hkn : KnowOk2 P Gl kn) {N d : Nat} {f : Nat} {args : List PV} {r : PV} (h : Vo kn (Jz kn Gl N d PV) f args = some r) : Q4y P Gl f args r :=
 Zg hkn (Q1v hkn N d PV r) h
end
end
end Go.Av
