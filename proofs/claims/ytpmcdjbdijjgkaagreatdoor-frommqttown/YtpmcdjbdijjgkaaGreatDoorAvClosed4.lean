/- Part of the proof of FrommqttOwn: for every input the law returns true; no condition. -/
import Derived.Test.YtpmcdjbdijjgkaaGreatDoorAvClosed2
import Derived.Test.YtpmcdjbdijjgkaaGreatDoorAvDrawt
import Derived.Test.YtpmcdjbdijjgkaaGreatDoorAvMeth
import Derived.Test.YtpmcdjbdijjgkaaGreatDoorAvTrans
import Derived.Test.YtpmcdjbdijjgkaaGreatDoorAvFrame
import Derived.Test.YtpmcdjbdijjgkaaGreatDoorAvEq
namespace Go.Av
noncomputable section

structure Know2 where
 tab : Nat → Option CFunc
 known : Nat → List PV → Option PV
 meth : Nat → List PV → List PV → Option PV

def Qnr (r : PV) (cells : List PV) : PV := .tuple [r, .agg cells]

def Qep : List AObj → AV → Option PV
 | .cells cs :: rest, v => match Qbu (.dead :: rest) cs with
  | some ps => match Qhi Qo8 (.dead :: rest) v with
   | some r => some (Qnr r ps)
   | none => none
  | none => none
 | _, _ => none

def Q8h (kn : Know2) (E : Env (Option PV)) (f : Nat) (args : List PV) : Option PV := match kn.known f args with
 | some r => some r
 | none => match kn.tab f with
  | some cf => Q4c .p args fun args => Q1f E cf args [] (fun v H => Qhi Qo8 H v)
  | none => none
def Qfm (kn : Know2) (E : Env (Option PV)) (f : Nat) (cells args : List PV) : Option PV := match kn.meth f cells args with
 | some r => some r
 | none => match kn.tab f with
  | some cf => Q4c .p args fun args => Q4c .p cells fun cells => Q1f E cf (.ptr 0 0 :: args) [.cells cells] (fun v H => Qep H v)
  | none => none

def Qoc : List AV → Option (List PV)
 | [] => some []
 | .p x :: r => match Qoc r with
  | some ps => some (x :: ps)
  | none => none
 | _ :: _ => none
theorem Qdq : ∀ (cs : List AV) (ps : List PV), Qoc cs = some ps → cs = ps.map .p
 | [], ps, h => by simp only [Qoc] at h; cases h; rfl
 | c :: cs, ps, h => by
  cases c <;> simp only [Qoc] at h <;> try (cases h; done)
  split at h
  ·rename_i x ps' h1;cases h;rw [Qdq cs ps' h1]; rfl
  cases h
def Qat : List PV → Bool
 | [] => true
 | .int _ _ :: r => Qat r
 | .bool _ :: r => Qat r
 | .str _ :: r => Qat r
 | _ :: _ => false
def Qnh {α : Type} (kn : Know2) (EV : Env (Option PV)) (inl : Nat → List AV → List AObj → (AV → List AObj → α) → α) (f : Nat) (args : List AV) (H : List AObj) (k : AV → List AObj → α) : α :=
 match AV.toPVs args with
 | some pa => match Q8h kn EV f pa with
  | some r => k (.p r) H
  | none => inl f args H k
 | none => match Qbu H args with
  | some pa => match Q8h kn EV f pa with
   | some r => match Q0u r with
    | true => k (.p r) H
    | false => inl f args H k
   | none => inl f args H k
  | none => match args with
  | .ptr a 0 :: rest => match AV.toPVs rest with
   | some pr => match H[a]? with
    | some (.cells cs) => match Qoc cs with
     | some cells => match Qat cells with
      | true => match Qfm kn EV f cells pr with
       | some (.tuple [r, .agg cells']) => k (.p r) (H.set a (.cells (cells'.map .p)))
       | _ => inl f args H k
      | false => inl f args H k
     | none => inl f args H k
    | _ => inl f args H k
   | none => inl f args H k
  | _ => inl f args H k
def Qpi (kn : Know2) (EA : Env (Option AV)) (f : Nat) (args : List AV) (n : Nat) : Option AV := match refsLt.refsLts n args with
 | true => match kn.tab f with
  | some cf => Q1f EA cf args (List.replicate n .dead) (fun v _ => some v)
  | none => none
 | false => none
def Qpb (kn : Know2) (EA : Env (Option AV)) (f : Nat) (args : List AV) (H : List AObj) (R : List Nat) : Option AV := match refsLt.refsLts H.length args with
 | true => match R.all (fun a => match H[a]? with | some o => Jr H.length o | none => true) with
  | true => match kn.tab f with
   | some cf => Q1f EA cf args (Qbv R H) (fun v H' => match Qhw (Qbv R H) H' with
    | true => some v
    | false => none)
   | none => none
  | false => none
 | false => none
def Qnp (R : List Nat) : List (Nat × AObj) := R.map fun a => (a, .dead)
def Qj3 {α : Type} (fail : α) (z : Unit → α) (kn : Know2) (EA : Env (Option AV)) (f : Nat) (args : List AV) (H : List AObj) (R : List Nat) (k : AV → List AObj → List Nat → List Nat → α) : α := match Qpb kn EA f args H R with
 | some v => match refsLt H.length v with
  | true => k v H R []
  | false => z ()
 | none => z ()
def Q52 {α : Type} (fail : α) (z : Unit → α) (kn : Know2) (EA : Env (Option AV)) (f : Nat) (args : List AV) (H : List AObj) (k : AV → List AObj → List Nat → List Nat → α) : α := match Qpi kn EA f args H.length with
 | some v => match refsLt H.length v with
  | true => k v H [] []
  | false => z ()
 | none => Qj3 fail z kn EA f args H (args.flatMap (Qbx 12 H)) k
def Qo5 {α : Type} (fail : α) (kn : Know2) (EV : Env (Option PV)) (EA : Env (Option AV)) (f : Nat) (args : List AV) (H : List AObj) (k : AV → List AObj → List Nat → List Nat → α) : α :=
 match AV.toPVs args with
 | some pa => match Q8h kn EV f pa with
  | some r => k (.p r) H [] []
  | none => fail
 | none => match Qbu H args with
  | some pa => match Q8h kn EV f pa with
   | some r => match Q0u r with
    | true => k (.p r) H (Q3x H args) []
    | false => Q52 fail (fun _ => match (Q3x H args).all (fun a => Nat.blt a H.length) with
     | true => k (.p r) (Jp (Qnp (Q3x H args)) H) (Q3x H args) (Q3x H args)
     | false => fail) kn EA f args H k
   | none => Q52 fail (fun _ => fail) kn EA f args H k
  | none => match args with
  | .ptr a 0 :: rest => match AV.toPVs rest with
   | some pr => match H[a]? with
    | some (.cells cs) => match Qoc cs with
     | some cells => match Qfm kn EV f cells pr with
      | some (.tuple [r, .agg cells']) => k (.p r) (H.set a (.cells (cells'.map .p))) [a] [a]
      | _ => Q52 fail (fun _ => fail) kn EA f args H k
     | none => Q52 fail (fun _ => fail) kn EA f args H k
    | _ => Q52 fail (fun _ => fail) kn EA f args H k
   | none => Q52 fail (fun _ => fail) kn EA f args H k
  | _ => Q52 fail (fun _ => fail) kn EA f args H k

def Q2o : Nat → List COper → List COper × List COper
 | _, [] => ([], [])
 | j, c :: r => match Qhb j (c :: r) with
  | true => ([], c :: r)
  | false => match Q2o (j + 1) r with
   | (a, b) => (c :: a, b)
def Qb7 (kn : Know2) (Gl : Nat → Option (List PV)) (N : Nat) : Nat → (β : Type) → Env (Option β)
 | 0, _ => { fail := none, cmp := ⟨Q7, rfl⟩, scmp := ⟨Gp, rfl⟩, glob := Gl, call := fun _ _ _ _ => none, loop := fun _ _ _ _ => none, join := fun _ _ _ _ _ => none, draw := fun _ _ _ _ => none }
 | d + 1, β => Env.mk none ⟨Q7, rfl⟩ ⟨Gp, rfl⟩ Gl
   (Qnh kn (Qb7 kn Gl N d PV) fun f args H k => match kn.tab f with
     | some cf => Q1f (Qb7 kn Gl N d β) cf args H k
     | none => none)
   (fun b tm H k => Qe6 (Qb7 kn Gl N d β) b N tm H k)
   (fun a b tm H k => ev (Qb7 kn Gl N d β) a tm H fun e tm H => match e with
    | .normal => ev (Qb7 kn Gl N d β) b tm H k
    | .exit i => k (.exit i) tm H
    | .ret => k .ret tm H)
   (fun ops tm H k => match Q2o 0 ops with
    | (pre, suf) => Uk (Qb7 kn Gl N d β) (Qo5 none kn (Qb7 kn Gl N d PV) (Qb7 kn Gl N d AV)) (fun tm H => Q0j (Qb7 kn Gl N d β) k suf tm H) pre tm H 0 [])
section
variable {P : Program} {Gl : Nat → Option (List PV)} {kn : Know2}

structure KnowOk2 (P : Program) (Gl : Nat → Option (List PV)) (kn : Know2) : Prop where
 tab : ∀ f cf, kn.tab f = some cf → Gh P f cf = true
 known : ∀ f args r, kn.known f args = some r → Q3l P Gl f args r
 meth : ∀ f cells args r, kn.meth f cells args = some r → ∃ x cs', r = Qnr x cs' ∧ Qpf P Gl f cells args x cs'

theorem J6 (hkn : KnowOk2 P Gl kn) {E : Env (Option PV)} {f : Nat} {args : List PV} {r : PV} (hE : Hom E (EP P Gl) r) (h : Q8h kn E f args = some r) : Q3l P Gl f args r := by
 unfold Q8h at h
 cases hk : kn.known f args with
 | some x => rw [hk] at h; cases h; exact hkn.known f args _ hk
 | none =>
  simp only [hk] at h
  cases ht : kn.tab f with
  | none => simp only [ht] at h; cases h
  | some cf =>
   simp only [ht, Yw] at h;exact Q0 (hkn.tab f cf ht) (Q1h hE (fun v H hv => Q8x (fun _ _ _ ho => ⟨trivial, ho⟩) (Q58 Qo8 v r hv)) h)

theorem Qlw {H1 H2 : List AObj} {K1 K2 : Nat → Prop} (h : ∀ a o, K1 a → H1[a]? = some o → o ≠ .dead → K2 a ∧ H2[a]? = some o) {v : AV} {x : PV} (hf : Frz K1 H1 v x) : Frz K2 H2 v x := by
 induction hf with
 | p x => exact .p x
 | nil esz => exact .nil esz
 | zero esz => exact .zero esz
 | slice esz a off len cs rows hk ho hl hr hn hv ih =>
  obtain ⟨k1, k2⟩ := h a _ hk ho (by simp);exact .slice esz a off len cs rows k1 k2 hl hr hn ih
 | agg cs ps hn _ ih => exact .agg cs ps hn ih
 | tuple cs ps hn _ ih => exact .tuple cs ps hn ih
 | func fn a b a' b' n1 _ n2 _ ih1 ih2 => exact .func fn a b a' b' n1 ih1 n2 ih2
 | iface t v x _ ih => exact .iface t v x ih
 | map r es ps hk ho hn hkk _ ih =>
  obtain ⟨k1, k2⟩ := h r _ hk ho (by simp);exact .map r es ps k1 k2 hn hkk ih

theorem Qdl {H : List AObj} {v : AV} {x : PV} (h : Qep H v = some x) : ∃ r cs', x = Qnr r cs' ∧ ∃ cs rest, H = .cells cs :: rest ∧ FrzL (fun a => a ≠ 0) H cs cs' ∧ Frz (fun a => a ≠ 0) H v r := by
 unfold Qep at h;split at h
 ·rename_i cs rest;split at h
  ·rename_i ps h1;split at h
   ·rename_i r h2;cases h
    have key : ∀ {K : Nat → Prop} {v : AV} {x : PV}, Frz K (AObj.dead :: rest) v x → Frz (fun a => a ≠ 0) (AObj.cells cs :: rest) v x := by
     intro K v x hf;refine Qlw (fun a o _ ho hc => ?_) hf
     cases a with
     | zero => simp at ho; exact absurd ho.symm hc
     | succ a => exact ⟨by simp, by simpa using ho⟩
    have q := Q0o _ _ h1;exact ⟨r, ps, rfl, cs, rest, rfl, ⟨q.1, fun i v x hv hx => key (q.2 i v x hv hx)⟩, key (Q58 Qo8 _ _ h2)⟩
   cases h
  cases h
 ·cases h

theorem Q70 (hkn : KnowOk2 P Gl kn) {E : Env (Option PV)} {f : Nat} {cells args : List PV} {x : PV} {cs' : List PV} (hE : Hom E (EP P Gl) (Qnr x cs')) (h : Qfm kn E f cells args = some (Qnr x cs')) : Qpf P Gl f cells args x cs' := by
 unfold Qfm at h
 cases hk : kn.meth f cells args with
 | some y =>
  rw [hk] at h; cases h;obtain ⟨y, cs'', e, q⟩ := hkn.meth f cells args _ hk;simp only [Qnr, PV.tuple.injEq, List.cons.injEq, PV.agg.injEq, and_true] at e;obtain ⟨rfl, rfl⟩ := e;exact q
 | none =>
  simp only [hk] at h
  cases ht : kn.tab f with
  | none => simp only [ht] at h; cases h
  | some cf =>
   simp only [ht, Yw] at h;refine Qhn (hkn.tab f cf ht) (Q1h hE (fun v H hv => ?_) h);obtain ⟨y', cs'', e, q⟩ := Qdl hv;simp only [Qnr, PV.tuple.injEq, List.cons.injEq, PV.agg.injEq, and_true] at e;obtain ⟨rfl, rfl⟩ := e;exact q

theorem Qiz (hkn : KnowOk2 P Gl kn) {β : Type} {EV : Env (Option PV)} (hEV : ∀ r, Hom EV (EP P Gl) r) {r : β} {inl : Nat → List AV → List AObj → (AV → List AObj → Option β) → Option β} {f : Nat} {args : List AV} {H : List AObj}
  {kO : AV → List AObj → Option β} {kP : AV → List AObj → Prop} (hk : ∀ v H', kO v H' = some r → kP v H') (hinl : inl f args H kO = some r → Yz P Gl f args H kP) (he : Qnh kn EV inl f args H kO = some r) : Yz P Gl f args H kP := by
 unfold Qnh at he;split at he
 ·rename_i pa h1;split at he
  ·rename_i x h2;exact Q06 (J6 hkn (hEV x) h2) (Jc args pa h1) (hk _ _ he)
  exact hinl he
 split at he
 ·rename_i pa h1;split at he
  ·rename_i x h2;split at he
   ·rename_i h3;have q := Q0o args pa h1;exact Q5u (J6 hkn (hEV x) h2) ⟨q.1, fun i v x hv hx => Q8x (fun a o _ ho => ⟨trivial, ho⟩) (q.2 i v x hv hx)⟩ h3 (hk _ _ he)
   exact hinl he
  exact hinl he
 ·split at he
  ·rename_i a rest _ _;split at he
   ·rename_i pr h1;split at he
    ·rename_i cs ha;split at he
     ·rename_i cells hc;split at he
      ·split at he
       ·rename_i x cells' h2;exact Qd1 (Q70 hkn (hEV _) h2) (by rw [ha, Qdq _ _ hc]) (Jc rest pr h1) (hk _ _ he)
       exact hinl he
      exact hinl he
     exact hinl he
    exact hinl he
   exact hinl he
  ·exact hinl he

theorem Qgr (hkn : KnowOk2 P Gl kn) {β : Type} {EA : Env (Option AV)} (hEA : ∀ r, Hom EA (EP P Gl) r) {r : β} {f : Nat} {args : List AV} {H : List AObj} {R : List Nat}
  {kO : AV → List AObj → List Nat → List Nat → Option β} {kP : AV → List AObj → List Nat → List Nat → Prop} (hk : ∀ v H' R A, kO v H' R A = some r → kP v H' R A) {z : Unit → Option β} (hz : z () = some r → Wc P Gl f args H kP) (he : Qj3 none z kn EA f args H R kO = some r) : Wc P Gl f args H kP := by
 unfold Qj3 at he;split at he
 ·rename_i v hv;unfold Qpb at hv;split at hv
  ·rename_i h1;split at hv
   ·rename_i h2;split at hv
    ·rename_i cf hcf;split at he
     ·rename_i hr
      have hc : Yz P Gl f args (Qbv R H) (fun v0 H' => v0 = v ∧ ∃ rest, H' = Qbv R H ++ rest) := Xr (hkn.tab f cf hcf) (Q1h (hEA v) (fun v0 H' h => by
       split at h
       ·rename_i hp; cases h; exact ⟨rfl, Qge _ _ hp⟩
       cases h) hv)
      refine Qe8 R h1 hr (fun a ha o ho => ?_) hc (hk _ _ _ _ he);have := Lw.1 h2 a ha;rw [ho] at this; exact this
     exact hz he
    cases hv
   cases hv
  cases hv
 exact hz he
theorem Js (hkn : KnowOk2 P Gl kn) {β : Type} {EA : Env (Option AV)} (hEA : ∀ r, Hom EA (EP P Gl) r) {r : β} {f : Nat} {args : List AV} {H : List AObj}
  {kO : AV → List AObj → List Nat → List Nat → Option β} {kP : AV → List AObj → List Nat → List Nat → Prop} (hk : ∀ v H' R A, kO v H' R A = some r → kP v H' R A) {z : Unit → Option β} (hz : z () = some r → Wc P Gl f args H kP) (he : Q52 none z kn EA f args H kO = some r) : Wc P Gl f args H kP := by
 unfold Q52 at he;split at he
 ·rename_i v hv;unfold Qpi at hv;split at hv
  ·rename_i h1;split at hv
   ·rename_i cf hcf;split at he
    ·rename_i hr;have hc : Yz P Gl f args (List.replicate H.length .dead) (fun v0 _ => v0 = v) := Xr (hkn.tab f cf hcf) (Q1h (hEA v) (fun v0 H' h => by cases h; rfl) hv);exact .inl ⟨[], [], v, fun s h => (by cases h), fun H2 _ => Q62 (Qgj h1 hr hc H2) (fun v' H' ⟨e1, e2⟩ => ⟨e1, e2⟩), hk _ _ _ _ he⟩
    exact hz he
   cases hv
  cases hv
 exact Qgr hkn hEA hk hz he
theorem Qcw (hkn : KnowOk2 P Gl kn) {β : Type} {EV : Env (Option PV)} (hEV : ∀ r, Hom EV (EP P Gl) r) {EA : Env (Option AV)} (hEA : ∀ r, Hom EA (EP P Gl) r) {r : β} {f : Nat} {args : List AV} {H : List AObj}
  {kO : AV → List AObj → List Nat → List Nat → Option β} {kP : AV → List AObj → List Nat → List Nat → Prop} (hk : ∀ v H' R A, kO v H' R A = some r → kP v H' R A) (he : Qo5 none kn EV EA f args H kO = some r) : Wc P Gl f args H kP := by
 unfold Qo5 at he;split at he
 ·rename_i pa h1;split at he
  ·rename_i x h2;have hp := J6 hkn (hEV x) h2;exact .inl ⟨[], [], .p x, fun s h => (by cases h), fun H2 _ => Q06 hp (Jc args pa h1) ⟨rfl, rfl⟩, hk _ _ _ _ he⟩
  cases he
 split at he
 ·rename_i pa h1;split at he
  ·rename_i x h2;split at he
   ·rename_i h3;have q := Q0o args pa h1;have hp := J6 hkn (hEV x) h2;exact .inl ⟨Q3x H args, [], .p x, fun s h => (by cases h), fun H2 hH2 => Q5u hp ⟨q.1, fun i v x hv hx => Q8x (fun a o hk ho => ⟨trivial, hH2 a hk o ho⟩) (q.2 i v x hv hx)⟩ h3 ⟨rfl, rfl⟩, hk _ _ _ _ he⟩
   refine Js hkn hEA hk (fun hz => ?_) he;split at hz
   ·rename_i hR;have q := Q0o args pa h1;have hp := J6 hkn (hEV x) h2;exact Qgl _ hp q (fun a ha => by simpa using Lw.1 hR a ha) (hk _ _ _ _ hz)
   cases hz
  exact Js hkn hEA hk (fun h => by cases h) he
 ·split at he
  ·rename_i a rest _ _;split at he
   ·rename_i pr h1;split at he
    ·rename_i cs ha;split at he
     ·rename_i cells hc;split at he
      ·rename_i x cells' h2;have hm := Q70 hkn (hEV _) h2;refine .inl ⟨[a], [(a, .cells (cells'.map .p))], .p x, fun s hs => ?_, fun H2 hH2 => ?_, hk _ _ _ _ he⟩
       ·simp at hs; subst hs; exact (Lb.1 ha).1
       refine Qd1 hm ?_ (Jc rest pr h1) ⟨rfl, rfl⟩;rw [hH2 a (by simp) _ ha, Qdq _ _ hc]
      exact Js hkn hEA hk (fun h => by cases h) he
     exact Js hkn hEA hk (fun h => by cases h) he
    exact Js hkn hEA hk (fun h => by cases h) he
   exact Js hkn hEA hk (fun h => by cases h) he
  ·exact Js hkn hEA hk (fun h => by cases h) he

theorem Q7v : ∀ (cs : List COper) (j : Nat), cs = (Q2o j cs).1 ++ (Q2o j cs).2 ∧ Qhb (j + (Q2o j cs).1.length) (Q2o j cs).2 = true
 | [], j => ⟨rfl, rfl⟩
 | c :: r, j => by
  simp only [Q2o];split
  ·rename_i ht; exact ⟨rfl, ht⟩
  obtain ⟨h1, h2⟩ := Q7v r (j + 1);refine ⟨by simp only [Bj]; rw [← h1], ?_⟩;rw [Lm, show j + ((Q2o (j + 1) r).1.length + 1) = j + 1 + (Q2o (j + 1) r).1.length by omega]; exact h2
theorem Qg0 (hkn : KnowOk2 P Gl kn) (N : Nat) : ∀ (d : Nat) (β : Type) (r : β), Hom (Qb7 kn Gl N d β) (EP P Gl) r
 | 0, β, r => ⟨rfl, rfl, fun f a H kO kP hk he => (by simp only [Qb7] at he; cases he), fun b tm H kO kP hk he => (by simp only [Qb7] at he; cases he), fun a b tm H kO kP hk he => (by simp only [Qb7] at he; cases he), fun b tm H kO kP hk he => (by simp only [Qb7] at he; cases he)⟩
 | d + 1, β, r => by
  have ih := Qg0 hkn N d;refine ⟨rfl, rfl, fun f a H kO kP hk he => ?_, fun b tm H kO kP hk he => ?_, fun a b tm H kO kP hk he => ?_, fun ops tm H kO kP hk he => ?_⟩
  ·simp only [Qb7] at he;refine Qiz hkn (ih PV) hk (fun he => ?_) he
   cases ht : kn.tab f with
   | none => simp only [ht] at he; cases he
   | some cf =>
    simp only [ht] at he;exact Xr (hkn.tab f cf ht) (Q1h (ih β r) hk he)
  ·simp only [Qb7] at he;exact Q45 N (Qct (ih β r) hk N tm H he)
  ·simp only [Qb7] at he;refine Z7 (Q55 (ih β r) a tm H _ _ (fun e v H' hv => ?_) he)
   cases e with
   | normal => exact Q55 (ih β r) b v H' kO kP hk hv
   | exit i => exact hk _ _ _ hv
   | ret => exact hk _ _ _ hv
  ·simp only [Qb7] at he;obtain ⟨h1, h2⟩ := Q7v ops 0;rw [Me] at h2;generalize (Q2o 0 ops).1 = pre at he h1 h2;generalize (Q2o 0 ops).2 = suf at he h1 h2;subst h1
   cases suf with
   | nil =>
    rw [Nu];exact Z1 (Q39 (dP := Wc P Gl) (ih β r) (fun f a H kO kP hk he => Qcw hkn (ih PV) (ih AV) hk he) hk pre tm H 0 [] he)
   | cons c0 suf => exact Qjv h2 (Q39 (dP := Wc P Gl) (ih β r) (fun f a H kO kP hk he => Qcw hkn (ih PV) (ih AV) hk he) (fun tm' H' hv => Q5n (ih β r) hk _ tm' H' hv) pre tm H 0 [] he)

theorem X8 (hkn : KnowOk2 P Gl kn) {N d : Nat} {f : Nat} {args : List PV} {r : PV} (h : Q8h kn (Qb7 kn Gl N d PV) f args = some r) : Q3l P Gl f args r :=
 J6 hkn (Qg0 hkn N d PV r) h
end
end
end Go.Av
