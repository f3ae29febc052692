/- An abstract machine for the modelled code, and what its runs say of real calls. Part of a proof of a given statement: for every input the law returns true and the arguments read as before; no condition beyond the given row. -/
import Derived.Test.YtkemhhfbpniioaaGreatDoorAvClosed2
import Derived.Test.YtkemhhfbpniioaaGreatDoorAvDrawt
import Derived.Test.YtkemhhfbpniioaaGreatDoorAvMeth
import Derived.Test.YtkemhhfbpniioaaGreatDoorAvTrans
import Derived.Test.YtkemhhfbpniioaaGreatDoorAvFrame
import Derived.Test.YtkemhhfbpniioaaGreatDoorAvEq
namespace Go.Av
noncomputable section

structure Know2 where
 tab : Nat → Option CFunc
 known : Nat → List PV → Option PV
 meth : Nat → List PV → List PV → Option PV

def Qw5 (r : PV) (cells : List PV) : PV := .tuple [r, .agg cells]

def Qlp : List AObj → AV → Option PV
 | .cells cs :: rest, v => match Qgs (.dead :: rest) cs with
  | some ps => match Qpg Qww (.dead :: rest) v with
   | some r => some (Qw5 r ps)
   | none => none
  | none => none
 | _, _ => none

def Qec (kn : Know2) (E : Env (Option PV)) (f : Nat) (args : List PV) : Option PV := match kn.known f args with
 | some r => some r
 | none => match kn.tab f with
  | some cf => Qbd .p args fun args => Q4a E cf args [] (fun v H => Qpg Qww H v)
  | none => none
def Qmd (kn : Know2) (E : Env (Option PV)) (f : Nat) (cells args : List PV) : Option PV := match kn.meth f cells args with
 | some r => some r
 | none => match kn.tab f with
  | some cf => Qbd .p args fun args => Qbd .p cells fun cells => Q4a E cf (.ptr 0 0 :: args) [.cells cells] (fun v H => Qlp H v)
  | none => none

def Qy6 : List AV → Option (List PV)
 | [] => some []
 | .p x :: r => match Qy6 r with
  | some ps => some (x :: ps)
  | none => none
 | _ :: _ => none
theorem Qlo : ∀ (cs : List AV) (ps : List PV), Qy6 cs = some ps → cs = ps.map .p
 | [], ps, h => by simp only [Qy6] at h; cases h; rfl
 | c :: cs, ps, h => by
  cases c <;> simp only [Qy6] at h <;> try (cases h; done)
  split at h
  ·rename_i x ps' h1
   cases h
   rw [Qlo cs ps' h1]; rfl
  ·cases h
def Qh3 : List PV → Bool
 | [] => true
 | .int _ _ :: r => Qh3 r
 | .bool _ :: r => Qh3 r
 | .str _ :: r => Qh3 r
 | _ :: _ => false
def Qxk {α : Type} (kn : Know2) (EV : Env (Option PV)) (inl : Nat → List AV → List AObj → (AV → List AObj → α) → α) (f : Nat) (args : List AV) (H : List AObj) (k : AV → List AObj → α) : α :=
 match AV.toPVs args with
 | some pa => match Qec kn EV f pa with
  | some r => k (.p r) H
  | none => inl f args H k
 | none => match Qgs H args with
  | some pa => match Qec kn EV f pa with
   | some r => match Q6v r with
    | true => k (.p r) H
    | false => inl f args H k
   | none => inl f args H k
  | none => match args with
  | .ptr a 0 :: rest => match AV.toPVs rest with
   | some pr => match H[a]? with
    | some (.cells cs) => match Qy6 cs with
     | some cells => match Qh3 cells with
      | true => match Qmd kn EV f cells pr with
       | some (.tuple [r, .agg cells']) => k (.p r) (H.set a (.cells (cells'.map .p)))
       | _ => inl f args H k
      | false => inl f args H k
     | none => inl f args H k
    | _ => inl f args H k
   | none => inl f args H k
  | _ => inl f args H k
def Qzi (kn : Know2) (EA : Env (Option AV)) (f : Nat) (args : List AV) (n : Nat) : Option AV := match refsLt.refsLts n args with
 | true => match kn.tab f with
  | some cf => Q4a EA cf args (List.replicate n .dead) (fun v _ => some v)
  | none => none
 | false => none
def Qyo (kn : Know2) (EA : Env (Option AV)) (f : Nat) (args : List AV) (H : List AObj) (R : List Nat) : Option AV := match refsLt.refsLts H.length args with
 | true => match R.all (fun a => match H[a]? with | some o => Q2s H.length o | none => true) with
  | true => match kn.tab f with
   | some cf => Q4a EA cf args (Qi9 R H) (fun v H' => match Qpo (Qi9 R H) H' with
    | true => some v
    | false => none)
   | none => none
  | false => none
 | false => none
def Qrq {α : Type} (fail : α) (kn : Know2) (EA : Env (Option AV)) (f : Nat) (args : List AV) (H : List AObj) (R : List Nat) (k : AV → List AObj → List Nat → List Nat → α) : α := match Qyo kn EA f args H R with
 | some v => match refsLt H.length v with
  | true => k v H R []
  | false => fail
 | none => fail
def Q9d {α : Type} (fail : α) (kn : Know2) (EA : Env (Option AV)) (f : Nat) (args : List AV) (H : List AObj) (k : AV → List AObj → List Nat → List Nat → α) : α := match Qzi kn EA f args H.length with
 | some v => match refsLt H.length v with
  | true => k v H [] []
  | false => fail
 | none => Qrq fail kn EA f args H (args.flatMap (Qll 6 H)) k
def Qwl {α : Type} (fail : α) (kn : Know2) (EV : Env (Option PV)) (EA : Env (Option AV)) (f : Nat) (args : List AV) (H : List AObj) (k : AV → List AObj → List Nat → List Nat → α) : α :=
 match AV.toPVs args with
 | some pa => match Qec kn EV f pa with
  | some r => k (.p r) H [] []
  | none => fail
 | none => match Qgs H args with
  | some pa => match Qec kn EV f pa with
   | some r => match Q6v r with
    | true => k (.p r) H (Qlx H args) []
    | false => Q9d fail kn EA f args H k
   | none => Q9d fail kn EA f args H k
  | none => match args with
  | .ptr a 0 :: rest => match AV.toPVs rest with
   | some pr => match H[a]? with
    | some (.cells cs) => match Qy6 cs with
     | some cells => match Qmd kn EV f cells pr with
      | some (.tuple [r, .agg cells']) => k (.p r) (H.set a (.cells (cells'.map .p))) [a] [a]
      | _ => Q9d fail kn EA f args H k
     | none => Q9d fail kn EA f args H k
    | _ => Q9d fail kn EA f args H k
   | none => Q9d fail kn EA f args H k
  | _ => Q9d fail kn EA f args H k

def Q7e : Nat → List COper → List COper × List COper
 | _, [] => ([], [])
 | j, c :: r => match Qkq j (c :: r) with
  | true => ([], c :: r)
  | false => match Q7e (j + 1) r with
   | (a, b) => (c :: a, b)
def Qhz (kn : Know2) (Gl : Nat → Option (List PV)) (N : Nat) : Nat → (β : Type) → Env (Option β)
 | 0, _ => { fail := none, glob := Gl, call := fun _ _ _ _ => none, loop := fun _ _ _ _ => none, join := fun _ _ _ _ _ => none, draw := fun _ _ _ _ => none }
 | d + 1, β => Env.mk none Gl
   (Qxk kn (Qhz kn Gl N d PV) fun f args H k => match kn.tab f with
     | some cf => Q4a (Qhz kn Gl N d β) cf args H k
     | none => none)
   (fun b tm H k => Ql3 (Qhz kn Gl N d β) b N tm H k)
   (fun a b tm H k => ev (Qhz kn Gl N d β) a tm H fun e tm H => match e with
    | .normal => ev (Qhz kn Gl N d β) b tm H k
    | .exit i => k (.exit i) tm H
    | .ret => k .ret tm H)
   (fun ops tm H k => match Q7e 0 ops with
    | (pre, suf) => Q11 (Qhz kn Gl N d β) (Qwl none kn (Qhz kn Gl N d PV) (Qhz kn Gl N d AV)) (fun tm H => Q3g (Qhz kn Gl N d β) k suf tm H) pre tm H 0 [])
section
variable {P : Program} {Gl : Nat → Option (List PV)} {kn : Know2}

structure KnowOk2 (P : Program) (Gl : Nat → Option (List PV)) (kn : Know2) : Prop where
 tab : ∀ f cf, kn.tab f = some cf → Q7 P f cf = true
 known : ∀ f args r, kn.known f args = some r → Z0 P Gl f args r
 meth : ∀ f cells args r, kn.meth f cells args = some r → ∃ x cs', r = Qw5 x cs' ∧ Qko P Gl f cells args x cs'

theorem Q2n (hkn : KnowOk2 P Gl kn) {E : Env (Option PV)} {f : Nat} {args : List PV} {r : PV} (hE : Hom E (EP P Gl) r) (h : Qec kn E f args = some r) : Z0 P Gl f args r := by
 unfold Qec at h
 cases hk : kn.known f args with
 | some x => rw [hk] at h; cases h; exact hkn.known f args _ hk
 | none =>
  simp only [hk] at h
  cases ht : kn.tab f with
  | none => simp only [ht] at h; cases h
  | some cf =>
   simp only [ht, Uy] at h
   exact Q3 (hkn.tab f cf ht) (Q50 hE (fun v H hv => Qhb (fun _ _ _ ho => ⟨trivial, ho⟩) (Q9h Qww v r hv)) h)

theorem Qtl {H1 H2 : List AObj} {K1 K2 : Nat → Prop} (h : ∀ a o, K1 a → H1[a]? = some o → ∀ cs, o = .cells cs → K2 a ∧ H2[a]? = some o) {v : AV} {x : PV} (hf : Frz K1 H1 v x) : Frz K2 H2 v x := by
 induction hf with
 | p x => exact .p x
 | nil esz => exact .nil esz
 | slice esz a off len cs rows hk ho hl hr hn hv ih =>
  obtain ⟨k1, k2⟩ := h a _ hk ho cs rfl
  exact .slice esz a off len cs rows k1 k2 hl hr hn ih
 | agg cs ps hn _ ih => exact .agg cs ps hn ih
 | tuple cs ps hn _ ih => exact .tuple cs ps hn ih
 | func fn a b a' b' n1 _ n2 _ ih1 ih2 => exact .func fn a b a' b' n1 ih1 n2 ih2
 | iface t v x _ ih => exact .iface t v x ih

theorem Qjb {H : List AObj} {v : AV} {x : PV} (h : Qlp H v = some x) : ∃ r cs', x = Qw5 r cs' ∧ ∃ cs rest, H = .cells cs :: rest ∧ FrzL (fun a => a ≠ 0) H cs cs' ∧ Frz (fun a => a ≠ 0) H v r := by
 unfold Qlp at h
 split at h
 ·rename_i cs rest
  split at h
  ·rename_i ps h1
   split at h
   ·rename_i r h2
    cases h
    have key : ∀ {K : Nat → Prop} {v : AV} {x : PV}, Frz K (AObj.dead :: rest) v x → Frz (fun a => a ≠ 0) (AObj.cells cs :: rest) v x := by
     intro K v x hf
     refine Qtl (fun a o _ ho cs' hc => ?_) hf
     cases a with
     | zero => simp at ho; rw [← ho] at hc; cases hc
     | succ a => exact ⟨by simp, by simpa using ho⟩
    have q := Q76 _ _ h1
    exact ⟨r, ps, rfl, cs, rest, rfl, ⟨q.1, fun i v x hv hx => key (q.2 i v x hv hx)⟩, key (Q9h Qww _ _ h2)⟩
   ·cases h
  ·cases h
 ·cases h

theorem Qbq (hkn : KnowOk2 P Gl kn) {E : Env (Option PV)} {f : Nat} {cells args : List PV} {x : PV} {cs' : List PV} (hE : Hom E (EP P Gl) (Qw5 x cs')) (h : Qmd kn E f cells args = some (Qw5 x cs')) : Qko P Gl f cells args x cs' := by
 unfold Qmd at h
 cases hk : kn.meth f cells args with
 | some y =>
  rw [hk] at h; cases h
  obtain ⟨y, cs'', e, q⟩ := hkn.meth f cells args _ hk
  simp only [Qw5, PV.tuple.injEq, List.cons.injEq, PV.agg.injEq, and_true] at e
  obtain ⟨rfl, rfl⟩ := e
  exact q
 | none =>
  simp only [hk] at h
  cases ht : kn.tab f with
  | none => simp only [ht] at h; cases h
  | some cf =>
   simp only [ht, Uy] at h
   refine Q0r (hkn.tab f cf ht) (Q50 hE (fun v H hv => ?_) h)
   obtain ⟨y', cs'', e, q⟩ := Qjb hv
   simp only [Qw5, PV.tuple.injEq, List.cons.injEq, PV.agg.injEq, and_true] at e
   obtain ⟨rfl, rfl⟩ := e
   exact q

theorem Qqm (hkn : KnowOk2 P Gl kn) {β : Type} {EV : Env (Option PV)} (hEV : ∀ r, Hom EV (EP P Gl) r) {r : β} {inl : Nat → List AV → List AObj → (AV → List AObj → Option β) → Option β} {f : Nat} {args : List AV} {H : List AObj}
  {kO : AV → List AObj → Option β} {kP : AV → List AObj → Prop} (hk : ∀ v H', kO v H' = some r → kP v H') (hinl : inl f args H kO = some r → V2 P Gl f args H kP) (he : Qxk kn EV inl f args H kO = some r) : V2 P Gl f args H kP := by
 unfold Qxk at he
 split at he
 ·rename_i pa h1
  split at he
  ·rename_i x h2
   exact Gg (Q2n hkn (hEV x) h2) (Q28 args pa h1) (hk _ _ he)
  ·exact hinl he
 split at he
 ·rename_i pa h1
  split at he
  ·rename_i x h2
   split at he
   ·rename_i h3
    have q := Q76 args pa h1
    exact Qcz (Q2n hkn (hEV x) h2) ⟨q.1, fun i v x hv hx => Qhb (fun a o _ ho => ⟨trivial, ho⟩) (q.2 i v x hv hx)⟩ h3 (hk _ _ he)
   ·exact hinl he
  ·exact hinl he
 ·split at he
  ·rename_i a rest _ _
   split at he
   ·rename_i pr h1
    split at he
    ·rename_i cs ha
     split at he
     ·rename_i cells hc
      split at he
      ·split at he
       ·rename_i x cells' h2
        exact Qaj (Qbq hkn (hEV _) h2) (by rw [ha, Qlo _ _ hc]) (Q28 rest pr h1) (hk _ _ he)
       ·exact hinl he
      ·exact hinl he
     ·exact hinl he
    ·exact hinl he
   ·exact hinl he
  ·exact hinl he

theorem Qoq (hkn : KnowOk2 P Gl kn) {β : Type} {EA : Env (Option AV)} (hEA : ∀ r, Hom EA (EP P Gl) r) {r : β} {f : Nat} {args : List AV} {H : List AObj} {R : List Nat}
  {kO : AV → List AObj → List Nat → List Nat → Option β} {kP : AV → List AObj → List Nat → List Nat → Prop} (hk : ∀ v H' R A, kO v H' R A = some r → kP v H' R A) (he : Qrq none kn EA f args H R kO = some r) : Gc P Gl f args H kP := by
 unfold Qrq at he
 split at he
 ·rename_i v hv
  unfold Qyo at hv
  split at hv
  ·rename_i h1
   split at hv
   ·rename_i h2
    split at hv
    ·rename_i cf hcf
     split at he
     ·rename_i hr
      have hc : V2 P Gl f args (Qi9 R H) (fun v0 H' => v0 = v ∧ ∃ rest, H' = Qi9 R H ++ rest) := Gs (hkn.tab f cf hcf) (Q50 (hEA v) (fun v0 H' h => by
       split at h
       ·rename_i hp; cases h; exact ⟨rfl, Qnr _ _ hp⟩
       ·cases h) hv)
      refine Ql7 R h1 hr (fun a ha o ho => ?_) hc (hk _ _ _ _ he)
      have := List.all_eq_true.1 h2 a ha
      rw [ho] at this; exact this
     ·cases he
    ·cases hv
   ·cases hv
  ·cases hv
 ·cases he
theorem Q2h (hkn : KnowOk2 P Gl kn) {β : Type} {EA : Env (Option AV)} (hEA : ∀ r, Hom EA (EP P Gl) r) {r : β} {f : Nat} {args : List AV} {H : List AObj}
  {kO : AV → List AObj → List Nat → List Nat → Option β} {kP : AV → List AObj → List Nat → List Nat → Prop} (hk : ∀ v H' R A, kO v H' R A = some r → kP v H' R A) (he : Q9d none kn EA f args H kO = some r) : Gc P Gl f args H kP := by
 unfold Q9d at he
 split at he
 ·rename_i v hv
  unfold Qzi at hv
  split at hv
  ·rename_i h1
   split at hv
   ·rename_i cf hcf
    split at he
    ·rename_i hr
     have hc : V2 P Gl f args (List.replicate H.length .dead) (fun v0 _ => v0 = v) := Gs (hkn.tab f cf hcf) (Q50 (hEA v) (fun v0 H' h => by cases h; rfl) hv)
     exact ⟨[], [], v, fun s h => (by cases h), fun H2 _ => Q87 (Qnz h1 hr hc H2) (fun v' H' ⟨e1, e2⟩ => ⟨e1, e2⟩), hk _ _ _ _ he⟩
    ·cases he
   ·cases hv
  ·cases hv
 ·exact Qoq hkn hEA hk he
theorem Qil (hkn : KnowOk2 P Gl kn) {β : Type} {EV : Env (Option PV)} (hEV : ∀ r, Hom EV (EP P Gl) r) {EA : Env (Option AV)} (hEA : ∀ r, Hom EA (EP P Gl) r) {r : β} {f : Nat} {args : List AV} {H : List AObj}
  {kO : AV → List AObj → List Nat → List Nat → Option β} {kP : AV → List AObj → List Nat → List Nat → Prop} (hk : ∀ v H' R A, kO v H' R A = some r → kP v H' R A) (he : Qwl none kn EV EA f args H kO = some r) : Gc P Gl f args H kP := by
 unfold Qwl at he
 split at he
 ·rename_i pa h1
  split at he
  ·rename_i x h2
   have hp := Q2n hkn (hEV x) h2
   exact ⟨[], [], .p x, fun s h => (by cases h), fun H2 _ => Gg hp (Q28 args pa h1) ⟨rfl, rfl⟩, hk _ _ _ _ he⟩
  ·cases he
 split at he
 ·rename_i pa h1
  split at he
  ·rename_i x h2
   split at he
   ·rename_i h3
    have q := Q76 args pa h1
    have hp := Q2n hkn (hEV x) h2
    exact ⟨Qlx H args, [], .p x, fun s h => (by cases h), fun H2 hH2 => Qcz hp ⟨q.1, fun i v x hv hx => Qhb (fun a o hk ho => ⟨trivial, hH2 a hk o ho⟩) (q.2 i v x hv hx)⟩ h3 ⟨rfl, rfl⟩, hk _ _ _ _ he⟩
   ·exact Q2h hkn hEA hk he
  ·exact Q2h hkn hEA hk he
 ·split at he
  ·rename_i a rest _ _
   split at he
   ·rename_i pr h1
    split at he
    ·rename_i cs ha
     split at he
     ·rename_i cells hc
      split at he
      ·rename_i x cells' h2
       have hm := Qbq hkn (hEV _) h2
       refine ⟨[a], [(a, .cells (cells'.map .p))], .p x, fun s hs => ?_, fun H2 hH2 => ?_, hk _ _ _ _ he⟩
       ·simp at hs; subst hs; exact (List.getElem?_eq_some_iff.1 ha).1
       ·refine Qaj hm ?_ (Q28 rest pr h1) ⟨rfl, rfl⟩
        rw [hH2 a (by simp) _ ha, Qlo _ _ hc]
      ·exact Q2h hkn hEA hk he
     ·exact Q2h hkn hEA hk he
    ·exact Q2h hkn hEA hk he
   ·exact Q2h hkn hEA hk he
  ·exact Q2h hkn hEA hk he

theorem Qdf : ∀ (cs : List COper) (j : Nat), cs = (Q7e j cs).1 ++ (Q7e j cs).2 ∧ Qkq (j + (Q7e j cs).1.length) (Q7e j cs).2 = true
 | [], j => ⟨rfl, rfl⟩
 | c :: r, j => by
  simp only [Q7e]
  split
  ·rename_i ht; exact ⟨rfl, ht⟩
  ·obtain ⟨h1, h2⟩ := Qdf r (j + 1)
   refine ⟨by simp only [List.cons_append]; rw [← h1], ?_⟩
   rw [List.length_cons, show j + ((Q7e (j + 1) r).1.length + 1) = j + 1 + (Q7e (j + 1) r).1.length by omega]; exact h2
theorem Qm7 (hkn : KnowOk2 P Gl kn) (N : Nat) : ∀ (d : Nat) (β : Type) (r : β), Hom (Qhz kn Gl N d β) (EP P Gl) r
 | 0, β, r => ⟨rfl, rfl, fun f a H kO kP hk he => (by simp only [Qhz] at he; cases he), fun b tm H kO kP hk he => (by simp only [Qhz] at he; cases he), fun a b tm H kO kP hk he => (by simp only [Qhz] at he; cases he), fun b tm H kO kP hk he => (by simp only [Qhz] at he; cases he)⟩
 | d + 1, β, r => by
  have ih := Qm7 hkn N d
  refine ⟨rfl, rfl, fun f a H kO kP hk he => ?_, fun b tm H kO kP hk he => ?_, fun a b tm H kO kP hk he => ?_, fun ops tm H kO kP hk he => ?_⟩
  ·simp only [Qhz] at he
   refine Qqm hkn (ih PV) hk (fun he => ?_) he
   cases ht : kn.tab f with
   | none => simp only [ht] at he; cases he
   | some cf =>
    simp only [ht] at he
    exact Gs (hkn.tab f cf ht) (Q50 (ih β r) hk he)
  ·simp only [Qhz] at he
   exact Qks N (Qjx (ih β r) hk N tm H he)
  ·simp only [Qhz] at he
   refine Qta (Q9q (ih β r) a tm H _ _ (fun e v H' hv => ?_) he)
   cases e with
   | normal => exact Q9q (ih β r) b v H' kO kP hk hv
   | exit i => exact hk _ _ _ hv
   | ret => exact hk _ _ _ hv
  ·simp only [Qhz] at he
   obtain ⟨h1, h2⟩ := Qdf ops 0
   rw [Nat.zero_add] at h2
   generalize (Q7e 0 ops).1 = pre at he h1 h2
   generalize (Q7e 0 ops).2 = suf at he h1 h2
   subst h1
   cases suf with
   | nil =>
    rw [List.append_nil]
    exact Qe (Q80 (dP := Gc P Gl) (ih β r) (fun f a H kO kP hk he => Qil hkn (ih PV) (ih AV) hk he) hk pre tm H 0 [] he)
   | cons c0 suf => exact Qk7 h2 (Q80 (dP := Gc P Gl) (ih β r) (fun f a H kO kP hk he => Qil hkn (ih PV) (ih AV) hk he) (fun tm' H' hv => Q9m (ih β r) hk _ tm' H' hv) pre tm H 0 [] he)

theorem Qx (hkn : KnowOk2 P Gl kn) {N d : Nat} {f : Nat} {args : List PV} {r : PV} (h : Qec kn (Qhz kn Gl N d PV) f args = some r) : Z0 P Gl f args r :=
 Q2n hkn (Qm7 hkn N d PV r) h
end
end
end Go.Av
