/- An abstract machine for the modelled code, and what its runs say of real calls. Part of a proof of a given statement: for every input the law returns true and the arguments read as before; no condition beyond the given row. -/
import Derived.Test.YtegedmcbfmfjeaaGreatDoorAvClosed2
import Derived.Test.YtegedmcbfmfjeaaGreatDoorAvDrawt
import Derived.Test.YtegedmcbfmfjeaaGreatDoorAvMeth
import Derived.Test.YtegedmcbfmfjeaaGreatDoorAvTrans
import Derived.Test.YtegedmcbfmfjeaaGreatDoorAvFrame
import Derived.Test.YtegedmcbfmfjeaaGreatDoorAvEq
namespace Go.Av
noncomputable section

structure Know2 where
 tab : Nat → Option CFunc
 known : Nat → List PV → Option PV
 meth : Nat → List PV → List PV → Option PV

def Qob (r : PV) (cells : List PV) : PV := .tuple [r, .agg cells]

def Qdv : List AObj → AV → Option PV
 | .cells cs :: rest, v => match Qau (.dead :: rest) cs with
  | some ps => match Qh6 Qn0 (.dead :: rest) v with
   | some r => some (Qob r ps)
   | none => none
  | none => none
 | _, _ => none

def Q77 (kn : Know2) (E : Env (Option PV)) (f : Nat) (args : List PV) : Option PV := match kn.known f args with
 | some r => some r
 | none => match kn.tab f with
  | some cf => Q5g .p args fun args => Q09 E cf args [] (fun v H => Qh6 Qn0 H v)
  | none => none
def Qff (kn : Know2) (E : Env (Option PV)) (f : Nat) (cells args : List PV) : Option PV := match kn.meth f cells args with
 | some r => some r
 | none => match kn.tab f with
  | some cf => Q5g .p args fun args => Q5g .p cells fun cells => Q09 E cf (.ptr 0 0 :: args) [.cells cells] (fun v H => Qdv H v)
  | none => none

def Qok : List AV → Option (List PV)
 | [] => some []
 | .p x :: r => match Qok r with
  | some ps => some (x :: ps)
  | none => none
 | _ :: _ => none
theorem Qdj : ∀ (cs : List AV) (ps : List PV), Qok cs = some ps → cs = ps.map .p
 | [], ps, h => by simp only [Qok] at h; cases h; rfl
 | c :: cs, ps, h => by
  cases c <;> simp only [Qok] at h <;> try (cases h; done)
  split at h
  ·rename_i x ps' h1
   cases h
   rw [Qdj cs ps' h1]; rfl
  ·cases h
def Q9s : List PV → Bool
 | [] => true
 | .int _ _ :: r => Q9s r
 | .bool _ :: r => Q9s r
 | .str _ :: r => Q9s r
 | _ :: _ => false
def Qo0 {α : Type} (kn : Know2) (EV : Env (Option PV)) (inl : Nat → List AV → List AObj → (AV → List AObj → α) → α) (f : Nat) (args : List AV) (H : List AObj) (k : AV → List AObj → α) : α :=
 match AV.toPVs args with
 | some pa => match Q77 kn EV f pa with
  | some r => k (.p r) H
  | none => inl f args H k
 | none => match Qau H args with
  | some pa => match Q77 kn EV f pa with
   | some r => match Q1k r with
    | true => k (.p r) H
    | false => inl f args H k
   | none => inl f args H k
  | none => match args with
  | .ptr a 0 :: rest => match AV.toPVs rest with
   | some pr => match H[a]? with
    | some (.cells cs) => match Qok cs with
     | some cells => match Q9s cells with
      | true => match Qff kn EV f cells pr with
       | some (.tuple [r, .agg cells']) => k (.p r) (H.set a (.cells (cells'.map .p)))
       | _ => inl f args H k
      | false => inl f args H k
     | none => inl f args H k
    | _ => inl f args H k
   | none => inl f args H k
  | _ => inl f args H k
def Qpm (kn : Know2) (EA : Env (Option AV)) (f : Nat) (args : List AV) (n : Nat) : Option AV := match refsLt.refsLts n args with
 | true => match kn.tab f with
  | some cf => Q09 EA cf args (List.replicate n .dead) (fun v _ => some v)
  | none => none
 | false => none
def Qp9 (kn : Know2) (EA : Env (Option AV)) (f : Nat) (args : List AV) (H : List AObj) (R : List Nat) : Option AV := match refsLt.refsLts H.length args with
 | true => match R.all (fun a => match H[a]? with | some o => Jz H.length o | none => true) with
  | true => match kn.tab f with
   | some cf => Q09 EA cf args (Qb7 R H) (fun v H' => match Qk4 (Qb7 R H) H' with
    | true => some v
    | false => none)
   | none => none
  | false => none
 | false => none
def Qic {α : Type} (fail : α) (kn : Know2) (EA : Env (Option AV)) (f : Nat) (args : List AV) (H : List AObj) (R : List Nat) (k : AV → List AObj → List Nat → List Nat → α) : α := match Qp9 kn EA f args H R with
 | some v => match refsLt H.length v with
  | true => k v H R []
  | false => fail
 | none => fail
def Q4c {α : Type} (fail : α) (kn : Know2) (EA : Env (Option AV)) (f : Nat) (args : List AV) (H : List AObj) (k : AV → List AObj → List Nat → List Nat → α) : α := match Qpm kn EA f args H.length with
 | some v => match refsLt H.length v with
  | true => k v H [] []
  | false => fail
 | none => Qic fail kn EA f args H (args.flatMap (Qdi 6 H)) k
def Qo3 {α : Type} (fail : α) (kn : Know2) (EV : Env (Option PV)) (EA : Env (Option AV)) (f : Nat) (args : List AV) (H : List AObj) (k : AV → List AObj → List Nat → List Nat → α) : α :=
 match AV.toPVs args with
 | some pa => match Q77 kn EV f pa with
  | some r => k (.p r) H [] []
  | none => fail
 | none => match Qau H args with
  | some pa => match Q77 kn EV f pa with
   | some r => match Q1k r with
    | true => k (.p r) H (Qe6 H args) []
    | false => Q4c fail kn EA f args H k
   | none => Q4c fail kn EA f args H k
  | none => match args with
  | .ptr a 0 :: rest => match AV.toPVs rest with
   | some pr => match H[a]? with
    | some (.cells cs) => match Qok cs with
     | some cells => match Qff kn EV f cells pr with
      | some (.tuple [r, .agg cells']) => k (.p r) (H.set a (.cells (cells'.map .p))) [a] [a]
      | _ => Q4c fail kn EA f args H k
     | none => Q4c fail kn EA f args H k
    | _ => Q4c fail kn EA f args H k
   | none => Q4c fail kn EA f args H k
  | _ => Q4c fail kn EA f args H k

def Q2d : Nat → List COper → List COper × List COper
 | _, [] => ([], [])
 | j, c :: r => match Qc9 j (c :: r) with
  | true => ([], c :: r)
  | false => match Q2d (j + 1) r with
   | (a, b) => (c :: a, b)
def Q9r (kn : Know2) (Gl : Nat → Option (List PV)) (N : Nat) : Nat → (β : Type) → Env (Option β)
 | 0, _ => { fail := none, cmp := ⟨Q7, rfl⟩, scmp := ⟨Q1q, rfl⟩, glob := Gl, call := fun _ _ _ _ => none, loop := fun _ _ _ _ => none, join := fun _ _ _ _ _ => none, draw := fun _ _ _ _ => none }
 | d + 1, β => Env.mk none ⟨Q7, rfl⟩ ⟨Q1q, rfl⟩ Gl
   (Qo0 kn (Q9r kn Gl N d PV) fun f args H k => match kn.tab f with
     | some cf => Q09 (Q9r kn Gl N d β) cf args H k
     | none => none)
   (fun b tm H k => Qec (Q9r kn Gl N d β) b N tm H k)
   (fun a b tm H k => ev (Q9r kn Gl N d β) a tm H fun e tm H => match e with
    | .normal => ev (Q9r kn Gl N d β) b tm H k
    | .exit i => k (.exit i) tm H
    | .ret => k .ret tm H)
   (fun ops tm H k => match Q2d 0 ops with
    | (pre, suf) => Ua (Q9r kn Gl N d β) (Qo3 none kn (Q9r kn Gl N d PV) (Q9r kn Gl N d AV)) (fun tm H => Vb (Q9r kn Gl N d β) k suf tm H) pre tm H 0 [])
section
variable {P : Program} {Gl : Nat → Option (List PV)} {kn : Know2}

structure KnowOk2 (P : Program) (Gl : Nat → Option (List PV)) (kn : Know2) : Prop where
 tab : ∀ f cf, kn.tab f = some cf → Qf P f cf = true
 known : ∀ f args r, kn.known f args = some r → Xe P Gl f args r
 meth : ∀ f cells args r, kn.meth f cells args = some r → ∃ x cs', r = Qob x cs' ∧ Qb4 P Gl f cells args x cs'

theorem Jr (hkn : KnowOk2 P Gl kn) {E : Env (Option PV)} {f : Nat} {args : List PV} {r : PV} (hE : Hom E (EP P Gl) r) (h : Q77 kn E f args = some r) : Xe P Gl f args r := by
 unfold Q77 at h
 cases hk : kn.known f args with
 | some x => rw [hk] at h; cases h; exact hkn.known f args _ hk
 | none =>
  simp only [hk] at h
  cases ht : kn.tab f with
  | none => simp only [ht] at h; cases h
  | some cf =>
   simp only [ht, Wm] at h
   exact Qc (hkn.tab f cf ht) (Q0e hE (fun v H hv => Qa7 (fun _ _ _ ho => ⟨trivial, ho⟩) (Q4a Qn0 v r hv)) h)

theorem Qkb {H1 H2 : List AObj} {K1 K2 : Nat → Prop} (h : ∀ a o, K1 a → H1[a]? = some o → ∀ cs, o = .cells cs → K2 a ∧ H2[a]? = some o) {v : AV} {x : PV} (hf : Frz K1 H1 v x) : Frz K2 H2 v x := by
 induction hf with
 | p x => exact .p x
 | nil esz => exact .nil esz
 | slice esz a off len cs rows hk ho hl hr hn hv ih =>
  obtain ⟨k1, k2⟩ := h a _ hk ho cs rfl
  exact .slice esz a off len cs rows k1 k2 hl hr hn ih
 | agg cs ps hn _ ih => exact .agg cs ps hn ih
 | tuple cs ps hn _ ih => exact .tuple cs ps hn ih
 | func fn a b a' b' n1 _ n2 _ ih1 ih2 => exact .func fn a b a' b' n1 ih1 n2 ih2
 | iface t v x _ ih => exact .iface t v x ih

theorem Qcw {H : List AObj} {v : AV} {x : PV} (h : Qdv H v = some x) : ∃ r cs', x = Qob r cs' ∧ ∃ cs rest, H = .cells cs :: rest ∧ FrzL (fun a => a ≠ 0) H cs cs' ∧ Frz (fun a => a ≠ 0) H v r := by
 unfold Qdv at h
 split at h
 ·rename_i cs rest
  split at h
  ·rename_i ps h1
   split at h
   ·rename_i r h2
    cases h
    have key : ∀ {K : Nat → Prop} {v : AV} {x : PV}, Frz K (AObj.dead :: rest) v x → Frz (fun a => a ≠ 0) (AObj.cells cs :: rest) v x := by
     intro K v x hf
     refine Qkb (fun a o _ ho cs' hc => ?_) hf
     cases a with
     | zero => simp at ho; rw [← ho] at hc; cases hc
     | succ a => exact ⟨by simp, by simpa using ho⟩
    have q := Q1y _ _ h1
    exact ⟨r, ps, rfl, cs, rest, rfl, ⟨q.1, fun i v x hv hx => key (q.2 i v x hv hx)⟩, key (Q4a Qn0 _ _ h2)⟩
   ·cases h
  ·cases h
 ·cases h

theorem Q5r (hkn : KnowOk2 P Gl kn) {E : Env (Option PV)} {f : Nat} {cells args : List PV} {x : PV} {cs' : List PV} (hE : Hom E (EP P Gl) (Qob x cs')) (h : Qff kn E f cells args = some (Qob x cs')) : Qb4 P Gl f cells args x cs' := by
 unfold Qff at h
 cases hk : kn.meth f cells args with
 | some y =>
  rw [hk] at h; cases h
  obtain ⟨y, cs'', e, q⟩ := hkn.meth f cells args _ hk
  simp only [Qob, PV.tuple.injEq, List.cons.injEq, PV.agg.injEq, and_true] at e
  obtain ⟨rfl, rfl⟩ := e
  exact q
 | none =>
  simp only [hk] at h
  cases ht : kn.tab f with
  | none => simp only [ht] at h; cases h
  | some cf =>
   simp only [ht, Wm] at h
   refine Vd (hkn.tab f cf ht) (Q0e hE (fun v H hv => ?_) h)
   obtain ⟨y', cs'', e, q⟩ := Qcw hv
   simp only [Qob, PV.tuple.injEq, List.cons.injEq, PV.agg.injEq, and_true] at e
   obtain ⟨rfl, rfl⟩ := e
   exact q

theorem Qix (hkn : KnowOk2 P Gl kn) {β : Type} {EV : Env (Option PV)} (hEV : ∀ r, Hom EV (EP P Gl) r) {r : β} {inl : Nat → List AV → List AObj → (AV → List AObj → Option β) → Option β} {f : Nat} {args : List AV} {H : List AObj}
  {kO : AV → List AObj → Option β} {kP : AV → List AObj → Prop} (hk : ∀ v H', kO v H' = some r → kP v H') (hinl : inl f args H kO = some r → Xn P Gl f args H kP) (he : Qo0 kn EV inl f args H kO = some r) : Xn P Gl f args H kP := by
 unfold Qo0 at he
 split at he
 ·rename_i pa h1
  split at he
  ·rename_i x h2
   exact U4 (Jr hkn (hEV x) h2) (J3 args pa h1) (hk _ _ he)
  ·exact hinl he
 split at he
 ·rename_i pa h1
  split at he
  ·rename_i x h2
   split at he
   ·rename_i h3
    have q := Q1y args pa h1
    exact Q6j (Jr hkn (hEV x) h2) ⟨q.1, fun i v x hv hx => Qa7 (fun a o _ ho => ⟨trivial, ho⟩) (q.2 i v x hv hx)⟩ h3 (hk _ _ he)
   ·exact hinl he
  ·exact hinl he
 ·split at he
  ·rename_i a rest _ _
   split at he
   ·rename_i pr h1
    split at he
    ·rename_i cs ha
     split at he
     ·rename_i cells hc
      split at he
      ·split at he
       ·rename_i x cells' h2
        exact Q4f (Q5r hkn (hEV _) h2) (by rw [ha, Qdj _ _ hc]) (J3 rest pr h1) (hk _ _ he)
       ·exact hinl he
      ·exact hinl he
     ·exact hinl he
    ·exact hinl he
   ·exact hinl he
  ·exact hinl he

theorem Qfz (hkn : KnowOk2 P Gl kn) {β : Type} {EA : Env (Option AV)} (hEA : ∀ r, Hom EA (EP P Gl) r) {r : β} {f : Nat} {args : List AV} {H : List AObj} {R : List Nat}
  {kO : AV → List AObj → List Nat → List Nat → Option β} {kP : AV → List AObj → List Nat → List Nat → Prop} (hk : ∀ v H' R A, kO v H' R A = some r → kP v H' R A) (he : Qic none kn EA f args H R kO = some r) : V9 P Gl f args H kP := by
 unfold Qic at he
 split at he
 ·rename_i v hv
  unfold Qp9 at hv
  split at hv
  ·rename_i h1
   split at hv
   ·rename_i h2
    split at hv
    ·rename_i cf hcf
     split at he
     ·rename_i hr
      have hc : Xn P Gl f args (Qb7 R H) (fun v0 H' => v0 = v ∧ ∃ rest, H' = Qb7 R H ++ rest) := W5 (hkn.tab f cf hcf) (Q0e (hEA v) (fun v0 H' h => by
       split at h
       ·rename_i hp; cases h; exact ⟨rfl, Qet _ _ hp⟩
       ·cases h) hv)
      refine U5 R h1 hr (fun a ha o ho => ?_) hc (hk _ _ _ _ he)
      have := List.all_eq_true.1 h2 a ha
      rw [ho] at this; exact this
     ·cases he
    ·cases hv
   ·cases hv
  ·cases hv
 ·cases he
theorem Jo (hkn : KnowOk2 P Gl kn) {β : Type} {EA : Env (Option AV)} (hEA : ∀ r, Hom EA (EP P Gl) r) {r : β} {f : Nat} {args : List AV} {H : List AObj}
  {kO : AV → List AObj → List Nat → List Nat → Option β} {kP : AV → List AObj → List Nat → List Nat → Prop} (hk : ∀ v H' R A, kO v H' R A = some r → kP v H' R A) (he : Q4c none kn EA f args H kO = some r) : V9 P Gl f args H kP := by
 unfold Q4c at he
 split at he
 ·rename_i v hv
  unfold Qpm at hv
  split at hv
  ·rename_i h1
   split at hv
   ·rename_i cf hcf
    split at he
    ·rename_i hr
     have hc : Xn P Gl f args (List.replicate H.length .dead) (fun v0 _ => v0 = v) := W5 (hkn.tab f cf hcf) (Q0e (hEA v) (fun v0 H' h => by cases h; rfl) hv)
     exact ⟨[], [], v, fun s h => (by cases h), fun H2 _ => Q55 (Qgq h1 hr hc H2) (fun v' H' ⟨e1, e2⟩ => ⟨e1, e2⟩), hk _ _ _ _ he⟩
    ·cases he
   ·cases hv
  ·cases hv
 ·exact Qfz hkn hEA hk he
theorem Qco (hkn : KnowOk2 P Gl kn) {β : Type} {EV : Env (Option PV)} (hEV : ∀ r, Hom EV (EP P Gl) r) {EA : Env (Option AV)} (hEA : ∀ r, Hom EA (EP P Gl) r) {r : β} {f : Nat} {args : List AV} {H : List AObj}
  {kO : AV → List AObj → List Nat → List Nat → Option β} {kP : AV → List AObj → List Nat → List Nat → Prop} (hk : ∀ v H' R A, kO v H' R A = some r → kP v H' R A) (he : Qo3 none kn EV EA f args H kO = some r) : V9 P Gl f args H kP := by
 unfold Qo3 at he
 split at he
 ·rename_i pa h1
  split at he
  ·rename_i x h2
   have hp := Jr hkn (hEV x) h2
   exact ⟨[], [], .p x, fun s h => (by cases h), fun H2 _ => U4 hp (J3 args pa h1) ⟨rfl, rfl⟩, hk _ _ _ _ he⟩
  ·cases he
 split at he
 ·rename_i pa h1
  split at he
  ·rename_i x h2
   split at he
   ·rename_i h3
    have q := Q1y args pa h1
    have hp := Jr hkn (hEV x) h2
    exact ⟨Qe6 H args, [], .p x, fun s h => (by cases h), fun H2 hH2 => Q6j hp ⟨q.1, fun i v x hv hx => Qa7 (fun a o hk ho => ⟨trivial, hH2 a hk o ho⟩) (q.2 i v x hv hx)⟩ h3 ⟨rfl, rfl⟩, hk _ _ _ _ he⟩
   ·exact Jo hkn hEA hk he
  ·exact Jo hkn hEA hk he
 ·split at he
  ·rename_i a rest _ _
   split at he
   ·rename_i pr h1
    split at he
    ·rename_i cs ha
     split at he
     ·rename_i cells hc
      split at he
      ·rename_i x cells' h2
       have hm := Q5r hkn (hEV _) h2
       refine ⟨[a], [(a, .cells (cells'.map .p))], .p x, fun s hs => ?_, fun H2 hH2 => ?_, hk _ _ _ _ he⟩
       ·simp at hs; subst hs; exact (List.getElem?_eq_some_iff.1 ha).1
       ·refine Q4f hm ?_ (J3 rest pr h1) ⟨rfl, rfl⟩
        rw [hH2 a (by simp) _ ha, Qdj _ _ hc]
      ·exact Jo hkn hEA hk he
     ·exact Jo hkn hEA hk he
    ·exact Jo hkn hEA hk he
   ·exact Jo hkn hEA hk he
  ·exact Jo hkn hEA hk he

theorem Q6q : ∀ (cs : List COper) (j : Nat), cs = (Q2d j cs).1 ++ (Q2d j cs).2 ∧ Qc9 (j + (Q2d j cs).1.length) (Q2d j cs).2 = true
 | [], j => ⟨rfl, rfl⟩
 | c :: r, j => by
  simp only [Q2d]
  split
  ·rename_i ht; exact ⟨rfl, ht⟩
  ·obtain ⟨h1, h2⟩ := Q6q r (j + 1)
   refine ⟨by simp only [List.cons_append]; rw [← h1], ?_⟩
   rw [List.length_cons, show j + ((Q2d (j + 1) r).1.length + 1) = j + 1 + (Q2d (j + 1) r).1.length by omega]; exact h2
theorem Qem (hkn : KnowOk2 P Gl kn) (N : Nat) : ∀ (d : Nat) (β : Type) (r : β), Hom (Q9r kn Gl N d β) (EP P Gl) r
 | 0, β, r => ⟨rfl, rfl, fun f a H kO kP hk he => (by simp only [Q9r] at he; cases he), fun b tm H kO kP hk he => (by simp only [Q9r] at he; cases he), fun a b tm H kO kP hk he => (by simp only [Q9r] at he; cases he), fun b tm H kO kP hk he => (by simp only [Q9r] at he; cases he)⟩
 | d + 1, β, r => by
  have ih := Qem hkn N d
  refine ⟨rfl, rfl, fun f a H kO kP hk he => ?_, fun b tm H kO kP hk he => ?_, fun a b tm H kO kP hk he => ?_, fun ops tm H kO kP hk he => ?_⟩
  ·simp only [Q9r] at he
   refine Qix hkn (ih PV) hk (fun he => ?_) he
   cases ht : kn.tab f with
   | none => simp only [ht] at he; cases he
   | some cf =>
    simp only [ht] at he
    exact W5 (hkn.tab f cf ht) (Q0e (ih β r) hk he)
  ·simp only [Q9r] at he
   exact Qdc N (Qbx (ih β r) hk N tm H he)
  ·simp only [Q9r] at he
   refine Qkw (Q3o (ih β r) a tm H _ _ (fun e v H' hv => ?_) he)
   cases e with
   | normal => exact Q3o (ih β r) b v H' kO kP hk hv
   | exit i => exact hk _ _ _ hv
   | ret => exact hk _ _ _ hv
  ·simp only [Q9r] at he
   obtain ⟨h1, h2⟩ := Q6q ops 0
   rw [Nat.zero_add] at h2
   generalize (Q2d 0 ops).1 = pre at he h1 h2
   generalize (Q2d 0 ops).2 = suf at he h1 h2
   subst h1
   cases suf with
   | nil =>
    rw [List.append_nil]
    exact Qb (Q2l (dP := V9 P Gl) (ih β r) (fun f a H kO kP hk he => Qco hkn (ih PV) (ih AV) hk he) hk pre tm H 0 [] he)
   | cons c0 suf => exact Qin h2 (Q2l (dP := V9 P Gl) (ih β r) (fun f a H kO kP hk he => Qco hkn (ih PV) (ih AV) hk he) (fun tm' H' hv => Q4o (ih β r) hk _ tm' H' hv) pre tm H 0 [] he)

theorem Qc0 (hkn : KnowOk2 P Gl kn) {N d : Nat} {f : Nat} {args : List PV} {r : PV} (h : Q77 kn (Q9r kn Gl N d PV) f args = some r) : Xe P Gl f args r :=
 Jr hkn (Qem hkn N d PV r) h
end
end
end Go.Av
