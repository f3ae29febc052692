/- An abstract machine for the modelled code, and what its runs say of real calls. Part of a proof of a given statement: for every input the law returns true and the arguments read as before; no condition beyond the given row. -/
import Derived.Test.YtmiobindnojbaaaGreatDoorAvClosed2
import Derived.Test.YtmiobindnojbaaaGreatDoorAvDrawt
import Derived.Test.YtmiobindnojbaaaGreatDoorAvMeth
import Derived.Test.YtmiobindnojbaaaGreatDoorAvTrans
import Derived.Test.YtmiobindnojbaaaGreatDoorAvFrame
import Derived.Test.YtmiobindnojbaaaGreatDoorAvEq
namespace Go.Av
noncomputable section

structure Know2 where
 tab : Nat → Option CFunc
 known : Nat → List PV → Option PV
 meth : Nat → List PV → List PV → Option PV

def Qhr (r : PV) (cells : List PV) : PV := .tuple [r, .agg cells]

def Qa6 : List AObj → AV → Option PV
 | .cells cs :: rest, v => match Q73 (.dead :: rest) cs with
  | some ps => match Qcr Qhi (.dead :: rest) v with
   | some r => some (Qhr r ps)
   | none => none
  | none => none
 | _, _ => none

def Q3n (kn : Know2) (E : Env (Option PV)) (f : Nat) (args : List PV) : Option PV := match kn.known f args with
 | some r => some r
 | none => match kn.tab f with
  | some cf => Q24 .p args fun args => Gb E cf args [] (fun v H => Qcr Qhi H v)
  | none => none
def Qah (kn : Know2) (E : Env (Option PV)) (f : Nat) (cells args : List PV) : Option PV := match kn.meth f cells args with
 | some r => some r
 | none => match kn.tab f with
  | some cf => Q24 .p args fun args => Q24 .p cells fun cells => Gb E cf (.ptr 0 0 :: args) [.cells cells] (fun v H => Qa6 H v)
  | none => none

def Qja : List AV → Option (List PV)
 | [] => some []
 | .p x :: r => match Qja r with
  | some ps => some (x :: ps)
  | none => none
 | _ :: _ => none
theorem Q9o : ∀ (cs : List AV) (ps : List PV), Qja cs = some ps → cs = ps.map .p
 | [], ps, h => by simp only [Qja] at h; cases h; rfl
 | c :: cs, ps, h => by
  cases c <;> simp only [Qja] at h <;> try (cases h; done)
  split at h
  ·rename_i x ps' h1
   cases h
   rw [Q9o cs ps' h1]; rfl
  ·cases h
def Q6w : List PV → Bool
 | [] => true
 | .int _ _ :: r => Q6w r
 | .bool _ :: r => Q6w r
 | .str _ :: r => Q6w r
 | _ :: _ => false
def Qj6 {α : Type} (kn : Know2) (EV : Env (Option PV)) (inl : Nat → List AV → List AObj → (AV → List AObj → α) → α) (f : Nat) (args : List AV) (H : List AObj) (k : AV → List AObj → α) : α :=
 match AV.toPVs args with
 | some pa => match Q3n kn EV f pa with
  | some r => k (.p r) H
  | none => inl f args H k
 | none => match Q73 H args with
  | some pa => match Q3n kn EV f pa with
   | some r => match Gy r with
    | true => k (.p r) H
    | false => inl f args H k
   | none => inl f args H k
  | none => match args with
  | .ptr a 0 :: rest => match AV.toPVs rest with
   | some pr => match H[a]? with
    | some (.cells cs) => match Qja cs with
     | some cells => match Q6w cells with
      | true => match Qah kn EV f cells pr with
       | some (.tuple [r, .agg cells']) => k (.p r) (H.set a (.cells (cells'.map .p)))
       | _ => inl f args H k
      | false => inl f args H k
     | none => inl f args H k
    | _ => inl f args H k
   | none => inl f args H k
  | _ => inl f args H k
def Qki (kn : Know2) (EA : Env (Option AV)) (f : Nat) (args : List AV) (n : Nat) : Option AV := match refsLt.refsLts n args with
 | true => match kn.tab f with
  | some cf => Gb EA cf args (List.replicate n .dead) (fun v _ => some v)
  | none => none
 | false => none
def Qjy (kn : Know2) (EA : Env (Option AV)) (f : Nat) (args : List AV) (H : List AObj) (R : List Nat) : Option AV := match refsLt.refsLts H.length args with
 | true => match R.all (fun a => match H[a]? with | some o => G8 H.length o | none => true) with
  | true => match kn.tab f with
   | some cf => Gb EA cf args (Q7e R H) (fun v H' => match Qd7 (Q7e R H) H' with
    | true => some v
    | false => none)
   | none => none
  | false => none
 | false => none
def Qhz (R : List Nat) : List (Nat × AObj) := R.map fun a => (a, .dead)
def Qev {α : Type} (fail : α) (z : Unit → α) (kn : Know2) (EA : Env (Option AV)) (f : Nat) (args : List AV) (H : List AObj) (R : List Nat) (k : AV → List AObj → List Nat → List Nat → α) : α := match Qjy kn EA f args H R with
 | some v => match refsLt H.length v with
  | true => k v H R []
  | false => z ()
 | none => z ()
def Q21 {α : Type} (fail : α) (z : Unit → α) (kn : Know2) (EA : Env (Option AV)) (f : Nat) (args : List AV) (H : List AObj) (k : AV → List AObj → List Nat → List Nat → α) : α := match Qki kn EA f args H.length with
 | some v => match refsLt H.length v with
  | true => k v H [] []
  | false => z ()
 | none => Qev fail z kn EA f args H (args.flatMap (Q8b 12 H)) k
def Qhm {α : Type} (fail : α) (kn : Know2) (EV : Env (Option PV)) (EA : Env (Option AV)) (f : Nat) (args : List AV) (H : List AObj) (k : AV → List AObj → List Nat → List Nat → α) : α :=
 match AV.toPVs args with
 | some pa => match Q3n kn EV f pa with
  | some r => k (.p r) H [] []
  | none => fail
 | none => match Q73 H args with
  | some pa => match Q3n kn EV f pa with
   | some r => match Gy r with
    | true => k (.p r) H (Q0t H args) []
    | false => Q21 fail (fun _ => match (Q0t H args).all (fun a => Nat.blt a H.length) with
     | true => k (.p r) (Vi (Qhz (Q0t H args)) H) (Q0t H args) (Q0t H args)
     | false => fail) kn EA f args H k
   | none => Q21 fail (fun _ => fail) kn EA f args H k
  | none => match args with
  | .ptr a 0 :: rest => match AV.toPVs rest with
   | some pr => match H[a]? with
    | some (.cells cs) => match Qja cs with
     | some cells => match Qah kn EV f cells pr with
      | some (.tuple [r, .agg cells']) => k (.p r) (H.set a (.cells (cells'.map .p))) [a] [a]
      | _ => Q21 fail (fun _ => fail) kn EA f args H k
     | none => Q21 fail (fun _ => fail) kn EA f args H k
    | _ => Q21 fail (fun _ => fail) kn EA f args H k
   | none => Q21 fail (fun _ => fail) kn EA f args H k
  | _ => Q21 fail (fun _ => fail) kn EA f args H k

def Gg : Nat → List COper → List COper × List COper
 | _, [] => ([], [])
 | j, c :: r => match Q9u j (c :: r) with
  | true => ([], c :: r)
  | false => match Gg (j + 1) r with
   | (a, b) => (c :: a, b)
def Q76 (kn : Know2) (Gl : Nat → Option (List PV)) (N : Nat) : Nat → (β : Type) → Env (Option β)
 | 0, _ => { fail := none, cmp := ⟨Qa, rfl⟩, scmp := ⟨Q0n, rfl⟩, glob := Gl, call := fun _ _ _ _ => none, loop := fun _ _ _ _ => none, join := fun _ _ _ _ _ => none, draw := fun _ _ _ _ => none }
 | d + 1, β => Env.mk none ⟨Qa, rfl⟩ ⟨Q0n, rfl⟩ Gl
   (Qj6 kn (Q76 kn Gl N d PV) fun f args H k => match kn.tab f with
     | some cf => Gb (Q76 kn Gl N d β) cf args H k
     | none => none)
   (fun b tm H k => Q9s (Q76 kn Gl N d β) b N tm H k)
   (fun a b tm H k => ev (Q76 kn Gl N d β) a tm H fun e tm H => match e with
    | .normal => ev (Q76 kn Gl N d β) b tm H k
    | .exit i => k (.exit i) tm H
    | .ret => k .ret tm H)
   (fun ops tm H k => match Gg 0 ops with
    | (pre, suf) => Wq (Q76 kn Gl N d β) (Qhm none kn (Q76 kn Gl N d PV) (Q76 kn Gl N d AV)) (fun tm H => Ui (Q76 kn Gl N d β) k suf tm H) pre tm H 0 [])
section
variable {P : Program} {Gl : Nat → Option (List PV)} {kn : Know2}

structure KnowOk2 (P : Program) (Gl : Nat → Option (List PV)) (kn : Know2) : Prop where
 tab : ∀ f cf, kn.tab f = some cf → Q0 P f cf = true
 known : ∀ f args r, kn.known f args = some r → Xl P Gl f args r
 meth : ∀ f cells args r, kn.meth f cells args = some r → ∃ x cs', r = Qhr x cs' ∧ Qji P Gl f cells args x cs'

theorem V0 (hkn : KnowOk2 P Gl kn) {E : Env (Option PV)} {f : Nat} {args : List PV} {r : PV} (hE : Hom E (EP P Gl) r) (h : Q3n kn E f args = some r) : Xl P Gl f args r := by
 unfold Q3n at h
 cases hk : kn.known f args with
 | some x => rw [hk] at h; cases h; exact hkn.known f args _ hk
 | none =>
  simp only [hk] at h
  cases ht : kn.tab f with
  | none => simp only [ht] at h; cases h
  | some cf =>
   simp only [ht, Yr] at h
   exact Q3 (hkn.tab f cf ht) (Jo hE (fun v H hv => Q72 (fun _ _ _ ho => ⟨trivial, ho⟩) (Q20 Qhi v r hv)) h)

theorem Qfq {H1 H2 : List AObj} {K1 K2 : Nat → Prop} (h : ∀ a o, K1 a → H1[a]? = some o → o ≠ .dead → K2 a ∧ H2[a]? = some o) {v : AV} {x : PV} (hf : Frz K1 H1 v x) : Frz K2 H2 v x := by
 induction hf with
 | p x => exact .p x
 | nil esz => exact .nil esz
 | zero esz => exact .zero esz
 | slice esz a off len cs rows hk ho hl hr hn hv ih =>
  obtain ⟨k1, k2⟩ := h a _ hk ho (by simp)
  exact .slice esz a off len cs rows k1 k2 hl hr hn ih
 | agg cs ps hn _ ih => exact .agg cs ps hn ih
 | tuple cs ps hn _ ih => exact .tuple cs ps hn ih
 | func fn a b a' b' n1 _ n2 _ ih1 ih2 => exact .func fn a b a' b' n1 ih1 n2 ih2
 | iface t v x _ ih => exact .iface t v x ih
 | map r es ps hk ho hn hkk _ ih =>
  obtain ⟨k1, k2⟩ := h r _ hk ho (by simp)
  exact .map r es ps k1 k2 hn hkk ih

theorem Q8z {H : List AObj} {v : AV} {x : PV} (h : Qa6 H v = some x) : ∃ r cs', x = Qhr r cs' ∧ ∃ cs rest, H = .cells cs :: rest ∧ FrzL (fun a => a ≠ 0) H cs cs' ∧ Frz (fun a => a ≠ 0) H v r := by
 unfold Qa6 at h
 split at h
 ·rename_i cs rest
  split at h
  ·rename_i ps h1
   split at h
   ·rename_i r h2
    cases h
    have key : ∀ {K : Nat → Prop} {v : AV} {x : PV}, Frz K (AObj.dead :: rest) v x → Frz (fun a => a ≠ 0) (AObj.cells cs :: rest) v x := by
     intro K v x hf
     refine Qfq (fun a o _ ho hc => ?_) hf
     cases a with
     | zero => simp at ho; exact absurd ho.symm hc
     | succ a => exact ⟨by simp, by simpa using ho⟩
    have q := J9 _ _ h1
    exact ⟨r, ps, rfl, cs, rest, rfl, ⟨q.1, fun i v x hv hx => key (q.2 i v x hv hx)⟩, key (Q20 Qhi _ _ h2)⟩
   ·cases h
  ·cases h
 ·cases h

theorem Q2t (hkn : KnowOk2 P Gl kn) {E : Env (Option PV)} {f : Nat} {cells args : List PV} {x : PV} {cs' : List PV} (hE : Hom E (EP P Gl) (Qhr x cs')) (h : Qah kn E f cells args = some (Qhr x cs')) : Qji P Gl f cells args x cs' := by
 unfold Qah at h
 cases hk : kn.meth f cells args with
 | some y =>
  rw [hk] at h; cases h
  obtain ⟨y, cs'', e, q⟩ := hkn.meth f cells args _ hk
  simp only [Qhr, PV.tuple.injEq, List.cons.injEq, PV.agg.injEq, and_true] at e
  obtain ⟨rfl, rfl⟩ := e
  exact q
 | none =>
  simp only [hk] at h
  cases ht : kn.tab f with
  | none => simp only [ht] at h; cases h
  | some cf =>
   simp only [ht, Yr] at h
   refine Qc2 (hkn.tab f cf ht) (Jo hE (fun v H hv => ?_) h)
   obtain ⟨y', cs'', e, q⟩ := Q8z hv
   simp only [Qhr, PV.tuple.injEq, List.cons.injEq, PV.agg.injEq, and_true] at e
   obtain ⟨rfl, rfl⟩ := e
   exact q

theorem Qep (hkn : KnowOk2 P Gl kn) {β : Type} {EV : Env (Option PV)} (hEV : ∀ r, Hom EV (EP P Gl) r) {r : β} {inl : Nat → List AV → List AObj → (AV → List AObj → Option β) → Option β} {f : Nat} {args : List AV} {H : List AObj}
  {kO : AV → List AObj → Option β} {kP : AV → List AObj → Prop} (hk : ∀ v H', kO v H' = some r → kP v H') (hinl : inl f args H kO = some r → Yl P Gl f args H kP) (he : Qj6 kn EV inl f args H kO = some r) : Yl P Gl f args H kP := by
 unfold Qj6 at he
 split at he
 ·rename_i pa h1
  split at he
  ·rename_i x h2
   exact Wd (V0 hkn (hEV x) h2) (Ve args pa h1) (hk _ _ he)
  ·exact hinl he
 split at he
 ·rename_i pa h1
  split at he
  ·rename_i x h2
   split at he
   ·rename_i h3
    have q := J9 args pa h1
    exact Q93 (V0 hkn (hEV x) h2) ⟨q.1, fun i v x hv hx => Q72 (fun a o _ ho => ⟨trivial, ho⟩) (q.2 i v x hv hx)⟩ h3 (hk _ _ he)
   ·exact hinl he
  ·exact hinl he
 ·split at he
  ·rename_i a rest _ _
   split at he
   ·rename_i pr h1
    split at he
    ·rename_i cs ha
     split at he
     ·rename_i cells hc
      split at he
      ·split at he
       ·rename_i x cells' h2
        exact Q88 (Q2t hkn (hEV _) h2) (by rw [ha, Q9o _ _ hc]) (Ve rest pr h1) (hk _ _ he)
       ·exact hinl he
      ·exact hinl he
     ·exact hinl he
    ·exact hinl he
   ·exact hinl he
  ·exact hinl he

theorem Qc4 (hkn : KnowOk2 P Gl kn) {β : Type} {EA : Env (Option AV)} (hEA : ∀ r, Hom EA (EP P Gl) r) {r : β} {f : Nat} {args : List AV} {H : List AObj} {R : List Nat}
  {kO : AV → List AObj → List Nat → List Nat → Option β} {kP : AV → List AObj → List Nat → List Nat → Prop} (hk : ∀ v H' R A, kO v H' R A = some r → kP v H' R A) {z : Unit → Option β} (hz : z () = some r → Wa P Gl f args H kP) (he : Qev none z kn EA f args H R kO = some r) : Wa P Gl f args H kP := by
 unfold Qev at he
 split at he
 ·rename_i v hv
  unfold Qjy at hv
  split at hv
  ·rename_i h1
   split at hv
   ·rename_i h2
    split at hv
    ·rename_i cf hcf
     split at he
     ·rename_i hr
      have hc : Yl P Gl f args (Q7e R H) (fun v0 H' => v0 = v ∧ ∃ rest, H' = Q7e R H ++ rest) := Q2 (hkn.tab f cf hcf) (Jo (hEA v) (fun v0 H' h => by
       split at h
       ·rename_i hp; cases h; exact ⟨rfl, Qat _ _ hp⟩
       ·cases h) hv)
      refine Q9m R h1 hr (fun a ha o ho => ?_) hc (hk _ _ _ _ he)
      have := List.all_eq_true.1 h2 a ha
      rw [ho] at this; exact this
     ·exact hz he
    ·cases hv
   ·cases hv
  ·cases hv
 ·exact hz he
theorem Vn (hkn : KnowOk2 P Gl kn) {β : Type} {EA : Env (Option AV)} (hEA : ∀ r, Hom EA (EP P Gl) r) {r : β} {f : Nat} {args : List AV} {H : List AObj}
  {kO : AV → List AObj → List Nat → List Nat → Option β} {kP : AV → List AObj → List Nat → List Nat → Prop} (hk : ∀ v H' R A, kO v H' R A = some r → kP v H' R A) {z : Unit → Option β} (hz : z () = some r → Wa P Gl f args H kP) (he : Q21 none z kn EA f args H kO = some r) : Wa P Gl f args H kP := by
 unfold Q21 at he
 split at he
 ·rename_i v hv
  unfold Qki at hv
  split at hv
  ·rename_i h1
   split at hv
   ·rename_i cf hcf
    split at he
    ·rename_i hr
     have hc : Yl P Gl f args (List.replicate H.length .dead) (fun v0 _ => v0 = v) := Q2 (hkn.tab f cf hcf) (Jo (hEA v) (fun v0 H' h => by cases h; rfl) hv)
     exact ⟨[], [], v, fun s h => (by cases h), fun H2 _ => Q2k (Qbx h1 hr hc H2) (fun v' H' ⟨e1, e2⟩ => ⟨e1, e2⟩), hk _ _ _ _ he⟩
    ·exact hz he
   ·cases hv
  ·cases hv
 ·exact Qc4 hkn hEA hk hz he
theorem Q7m (hkn : KnowOk2 P Gl kn) {β : Type} {EV : Env (Option PV)} (hEV : ∀ r, Hom EV (EP P Gl) r) {EA : Env (Option AV)} (hEA : ∀ r, Hom EA (EP P Gl) r) {r : β} {f : Nat} {args : List AV} {H : List AObj}
  {kO : AV → List AObj → List Nat → List Nat → Option β} {kP : AV → List AObj → List Nat → List Nat → Prop} (hk : ∀ v H' R A, kO v H' R A = some r → kP v H' R A) (he : Qhm none kn EV EA f args H kO = some r) : Wa P Gl f args H kP := by
 unfold Qhm at he
 split at he
 ·rename_i pa h1
  split at he
  ·rename_i x h2
   have hp := V0 hkn (hEV x) h2
   exact ⟨[], [], .p x, fun s h => (by cases h), fun H2 _ => Wd hp (Ve args pa h1) ⟨rfl, rfl⟩, hk _ _ _ _ he⟩
  ·cases he
 split at he
 ·rename_i pa h1
  split at he
  ·rename_i x h2
   split at he
   ·rename_i h3
    have q := J9 args pa h1
    have hp := V0 hkn (hEV x) h2
    exact ⟨Q0t H args, [], .p x, fun s h => (by cases h), fun H2 hH2 => Q93 hp ⟨q.1, fun i v x hv hx => Q72 (fun a o hk ho => ⟨trivial, hH2 a hk o ho⟩) (q.2 i v x hv hx)⟩ h3 ⟨rfl, rfl⟩, hk _ _ _ _ he⟩
   ·refine Vn hkn hEA hk (fun hz => ?_) he
    split at hz
    ·rename_i hR
     have q := J9 args pa h1
     have hp := V0 hkn (hEV x) h2
     exact Qca _ hp q (fun a ha => by simpa using List.all_eq_true.1 hR a ha) (hk _ _ _ _ hz)
    ·cases hz
  ·exact Vn hkn hEA hk (fun h => by cases h) he
 ·split at he
  ·rename_i a rest _ _
   split at he
   ·rename_i pr h1
    split at he
    ·rename_i cs ha
     split at he
     ·rename_i cells hc
      split at he
      ·rename_i x cells' h2
       have hm := Q2t hkn (hEV _) h2
       refine ⟨[a], [(a, .cells (cells'.map .p))], .p x, fun s hs => ?_, fun H2 hH2 => ?_, hk _ _ _ _ he⟩
       ·simp at hs; subst hs; exact (List.getElem?_eq_some_iff.1 ha).1
       ·refine Q88 hm ?_ (Ve rest pr h1) ⟨rfl, rfl⟩
        rw [hH2 a (by simp) _ ha, Q9o _ _ hc]
      ·exact Vn hkn hEA hk (fun h => by cases h) he
     ·exact Vn hkn hEA hk (fun h => by cases h) he
    ·exact Vn hkn hEA hk (fun h => by cases h) he
   ·exact Vn hkn hEA hk (fun h => by cases h) he
  ·exact Vn hkn hEA hk (fun h => by cases h) he

theorem Q4e : ∀ (cs : List COper) (j : Nat), cs = (Gg j cs).1 ++ (Gg j cs).2 ∧ Q9u (j + (Gg j cs).1.length) (Gg j cs).2 = true
 | [], j => ⟨rfl, rfl⟩
 | c :: r, j => by
  simp only [Gg]
  split
  ·rename_i ht; exact ⟨rfl, ht⟩
  ·obtain ⟨h1, h2⟩ := Q4e r (j + 1)
   refine ⟨by simp only [List.cons_append]; rw [← h1], ?_⟩
   rw [List.length_cons, show j + ((Gg (j + 1) r).1.length + 1) = j + 1 + (Gg (j + 1) r).1.length by omega]; exact h2
theorem Qb7 (hkn : KnowOk2 P Gl kn) (N : Nat) : ∀ (d : Nat) (β : Type) (r : β), Hom (Q76 kn Gl N d β) (EP P Gl) r
 | 0, β, r => ⟨rfl, rfl, fun f a H kO kP hk he => (by simp only [Q76] at he; cases he), fun b tm H kO kP hk he => (by simp only [Q76] at he; cases he), fun a b tm H kO kP hk he => (by simp only [Q76] at he; cases he), fun b tm H kO kP hk he => (by simp only [Q76] at he; cases he)⟩
 | d + 1, β, r => by
  have ih := Qb7 hkn N d
  refine ⟨rfl, rfl, fun f a H kO kP hk he => ?_, fun b tm H kO kP hk he => ?_, fun a b tm H kO kP hk he => ?_, fun ops tm H kO kP hk he => ?_⟩
  ·simp only [Q76] at he
   refine Qep hkn (ih PV) hk (fun he => ?_) he
   cases ht : kn.tab f with
   | none => simp only [ht] at he; cases he
   | some cf =>
    simp only [ht] at he
    exact Q2 (hkn.tab f cf ht) (Jo (ih β r) hk he)
  ·simp only [Q76] at he
   exact Q0z N (Q8g (ih β r) hk N tm H he)
  ·simp only [Q76] at he
   refine Qg8 (Q27 (ih β r) a tm H _ _ (fun e v H' hv => ?_) he)
   cases e with
   | normal => exact Q27 (ih β r) b v H' kO kP hk hv
   | exit i => exact hk _ _ _ hv
   | ret => exact hk _ _ _ hv
  ·simp only [Q76] at he
   obtain ⟨h1, h2⟩ := Q4e ops 0
   rw [Nat.zero_add] at h2
   generalize (Gg 0 ops).1 = pre at he h1 h2
   generalize (Gg 0 ops).2 = suf at he h1 h2
   subst h1
   cases suf with
   | nil =>
    rw [List.append_nil]
    exact Ql (Q0d (dP := Wa P Gl) (ih β r) (fun f a H kO kP hk he => Q7m hkn (ih PV) (ih AV) hk he) hk pre tm H 0 [] he)
   | cons c0 suf => exact Q8e h2 (Q0d (dP := Wa P Gl) (ih β r) (fun f a H kO kP hk he => Q7m hkn (ih PV) (ih AV) hk he) (fun tm' H' hv => Q2a (ih β r) hk _ tm' H' hv) pre tm H 0 [] he)

theorem J4 (hkn : KnowOk2 P Gl kn) {N d : Nat} {f : Nat} {args : List PV} {r : PV} (h : Q3n kn (Q76 kn Gl N d PV) f args = some r) : Xl P Gl f args r :=
 V0 hkn (Qb7 hkn N d PV r) h
end
end
end Go.Av
