/- Part of the proof of EventCopies: for every input the law returns true; no condition. -/
import Derived.Test.YtnbdhlnkhdhohaaGreatDoorAvClosed2
import Derived.Test.YtnbdhlnkhdhohaaGreatDoorAvDrawt
import Derived.Test.YtnbdhlnkhdhohaaGreatDoorAvMeth
import Derived.Test.YtnbdhlnkhdhohaaGreatDoorAvLook
import Derived.Test.YtnbdhlnkhdhohaaGreatDoorAvFrame
import Derived.Test.YtnbdhlnkhdhohaaGreatDoorAvEq
namespace Go.Av
noncomputable section

structure Know2 where
 tab : Nat → Option CFunc
 known : Nat → List PV → Option PV
 meth : Nat → List PV → List PV → Option PV

def Z13 (r : PV) (cells : List PV) : PV := .tuple [r, .agg cells]

def Qmk : List AObj → AV → Option PV
 | .cells cs :: rest, v => match Qjd (.dead :: rest) cs with
  | some ps => match Qqp Z0l (.dead :: rest) v with
   | some r => some (Z13 r ps)
   | none => none
  | none => none
 | _, _ => none

def Qg6 (kn : Know2) (E : Env (Option PV)) (f : Nat) (args : List PV) : Option PV := match kn.known f args with
 | some r => some r
 | none => match kn.tab f with
  | some cf => Qaw .p args fun args => Q63 E cf args [] (fun v H => Qqp Z0l H v)
  | none => none
def Qpw (kn : Know2) (E : Env (Option PV)) (f : Nat) (cells args : List PV) : Option PV := match kn.meth f cells args with
 | some r => some r
 | none => match kn.tab f with
  | some cf => Qaw .p args fun args => Qaw .p cells fun cells => Q63 E cf (.ptr 0 0 :: args) [.cells cells] (fun v H => Qmk H v)
  | none => none

def Z1i : List AV → Option (List PV)
 | [] => some []
 | .p x :: r => match Z1i r with
  | some ps => some (x :: ps)
  | none => none
 | _ :: _ => none
theorem Qmr : ∀ (cs : List AV) (ps : List PV), Z1i cs = some ps → cs = ps.map .p
 | [], ps, h => by simp only [Z1i] at h; cases h; rfl
 | c :: cs, ps, h => by
  cases c <;> simp only [Z1i] at h <;> try (cases h; done)
  split at h
  ·rename_i x ps' h1;cases h;rw [Qmr cs ps' h1]; rfl
  cases h
def Qju : List PV → Bool
 | [] => true
 | .int _ _ :: r => Qju r
 | .bool _ :: r => Qju r
 | .str _ :: r => Qju r
 | _ :: _ => false
def Z01 {α : Type} (kn : Know2) (EV : Env (Option PV)) (inl : Nat → List AV → List AObj → (AV → List AObj → α) → α) (f : Nat) (args : List AV) (H : List AObj) (k : AV → List AObj → α) : α :=
 match AV.toPVs args with
 | some pa => match Qg6 kn EV f pa with
  | some r => k (.p r) H
  | none => inl f args H k
 | none => match Qjd H args with
  | some pa => match Qg6 kn EV f pa with
   | some r => match Q66 r with
    | true => k (.p r) H
    | false => inl f args H k
   | none => inl f args H k
  | none => match args with
  | .ptr a 0 :: rest => match AV.toPVs rest with
   | some pr => match H[a]? with
    | some (.cells cs) => match Z1i cs with
     | some cells => match Qju cells with
      | true => match Qpw kn EV f cells pr with
       | some (.tuple [r, .agg cells']) => k (.p r) (H.set a (.cells (cells'.map .p)))
       | _ => inl f args H k
      | false => inl f args H k
     | none => inl f args H k
    | _ => inl f args H k
   | none => inl f args H k
  | _ => inl f args H k
def Z3c (kn : Know2) (EA : Env (Option AV)) (f : Nat) (args : List AV) (n : Nat) : Option AV := match refsLt.refsLts n args with
 | true => match kn.tab f with
  | some cf => Q63 EA cf args (List.replicate n .dead) (fun v _ => some v)
  | none => none
 | false => none
def Z30 (kn : Know2) (EA : Env (Option AV)) (f : Nat) (args : List AV) (H : List AObj) (R : List Nat) : Option AV := match refsLt.refsLts H.length args with
 | true => match R.all (fun a => match H[a]? with | some o => Q1h H.length o | none => true) with
  | true => match kn.tab f with
   | some cf => Q63 EA cf args (Qjy R H) (fun v H' => match Qu5 (Qjy R H) H' with
    | true => some v
    | false => none)
   | none => none
  | false => none
 | false => none
def Z14 (R : List Nat) : List (Nat × AObj) := R.map fun a => (a, .dead)
def Qul {α : Type} (fail : α) (z : Unit → α) (kn : Know2) (EA : Env (Option AV)) (f : Nat) (args : List AV) (H : List AObj) (R : List Nat) (k : AV → List AObj → List Nat → List Nat → α) : α := match Z30 kn EA f args H R with
 | some v => match refsLt H.length v with
  | true => k v H R []
  | false => z ()
 | none => z ()
def Qba {α : Type} (fail : α) (z : Unit → α) (kn : Know2) (EA : Env (Option AV)) (f : Nat) (args : List AV) (H : List AObj) (k : AV → List AObj → List Nat → List Nat → α) : α := match Z3c kn EA f args H.length with
 | some v => match refsLt H.length v with
  | true => k v H [] []
  | false => z ()
 | none => Qul fail z kn EA f args H (args.flatMap (Qk6 12 H)) k
def Qzo {α : Type} (fail : α) (kn : Know2) (EV : Env (Option PV)) (EA : Env (Option AV)) (f : Nat) (args : List AV) (H : List AObj) (k : AV → List AObj → List Nat → List Nat → α) : α :=
 match AV.toPVs args with
 | some pa => match Qg6 kn EV f pa with
  | some r => k (.p r) H [] []
  | none => fail
 | none => match Qjd H args with
  | some pa => match Qg6 kn EV f pa with
   | some r => match Q66 r with
    | true => k (.p r) H (Qav H args) []
    | false => Qba fail (fun _ => match (Qav H args).all (fun a => Nat.blt a H.length) with
     | true => k (.p r) (Q3q (Z14 (Qav H args)) H) (Qav H args) (Qav H args)
     | false => fail) kn EA f args H k
   | none => Qba fail (fun _ => fail) kn EA f args H k
  | none => match args with
  | .ptr a 0 :: rest => match AV.toPVs rest with
   | some pr => match H[a]? with
    | some (.cells cs) => match Z1i cs with
     | some cells => match Qpw kn EV f cells pr with
      | some (.tuple [r, .agg cells']) => k (.p r) (H.set a (.cells (cells'.map .p))) [a] [a]
      | _ => Qba fail (fun _ => fail) kn EA f args H k
     | none => Qba fail (fun _ => fail) kn EA f args H k
    | _ => Qba fail (fun _ => fail) kn EA f args H k
   | none => Qba fail (fun _ => fail) kn EA f args H k
  | _ => Qba fail (fun _ => fail) kn EA f args H k

def Q8f : Nat → List COper → List COper × List COper
 | _, [] => ([], [])
 | j, c :: r => match Qq9 j (c :: r) with
  | true => ([], c :: r)
  | false => match Q8f (j + 1) r with
   | (a, b) => (c :: a, b)
def Qjw (kn : Know2) (Gl : Nat → Option (List PV)) (N : Nat) : Nat → (β : Type) → Env (Option β)
 | 0, _ => { fail := none, cmp := ⟨Q3, rfl⟩, scmp := ⟨Q4s, rfl⟩, glob := Gl, call := fun _ _ _ _ => none, loop := fun _ _ _ _ => none, join := fun _ _ _ _ _ => none, draw := fun _ _ _ _ => none }
 | d + 1, β => Env.mk none ⟨Q3, rfl⟩ ⟨Q4s, rfl⟩ Gl
   (Z01 kn (Qjw kn Gl N d PV) fun f args H k => match kn.tab f with
     | some cf => Q63 (Qjw kn Gl N d β) cf args H k
     | none => none)
   (fun b tm H k => Qnx (Qjw kn Gl N d β) b N tm H k)
   (fun a b tm H k => ev (Qjw kn Gl N d β) a tm H fun e tm H => match e with
    | .normal => ev (Qjw kn Gl N d β) b tm H k
    | .exit i => k (.exit i) tm H
    | .ret => k .ret tm H)
   (fun ops tm H k => match Q8f 0 ops with
    | (pre, suf) => Q1l (Qjw kn Gl N d β) (Qzo none kn (Qjw kn Gl N d PV) (Qjw kn Gl N d AV)) (fun tm H => Q5z (Qjw kn Gl N d β) k suf tm H) pre tm H 0 [])
section
variable {P : Program} {Gl : Nat → Option (List PV)} {kn : Know2}

structure KnowOk2 (P : Program) (Gl : Nat → Option (List PV)) (kn : Know2) : Prop where
 tab : ∀ f cf, kn.tab f = some cf → Q1d P f cf = true
 known : ∀ f args r, kn.known f args = some r → Gv P Gl f args r
 meth : ∀ f cells args r, kn.meth f cells args = some r → ∃ x cs', r = Z13 x cs' ∧ Z1z P Gl f cells args x cs'

theorem Q2c (hkn : KnowOk2 P Gl kn) {E : Env (Option PV)} {f : Nat} {args : List PV} {r : PV} (hE : Hom E (EP P Gl) r) (h : Qg6 kn E f args = some r) : Gv P Gl f args r := by
 unfold Qg6 at h
 cases hk : kn.known f args with
 | some x => rw [hk] at h; cases h; exact hkn.known f args _ hk
 | none =>
  simp only [hk] at h
  cases ht : kn.tab f with
  | none => simp only [ht] at h; cases h
  | some cf =>
   simp only [ht, V3] at h;exact Q2 (hkn.tab f cf ht) (Q6x hE (fun v H hv => Qfm (fun _ _ _ ho => ⟨trivial, ho⟩) (Qc5 Z0l v r hv)) h)

theorem Qxc {H1 H2 : List AObj} {K1 K2 : Nat → Prop} (h : ∀ a o, K1 a → H1[a]? = some o → o ≠ .dead → K2 a ∧ H2[a]? = some o) {v : AV} {x : PV} (hf : Frz K1 H1 v x) : Frz K2 H2 v x := by
 induction hf with
 | p x => exact .p x
 | nil esz => exact .nil esz
 | zero esz => exact .zero esz
 | slice esz a off len cs rows hk ho hl hr hn hv ih =>
  obtain ⟨k1, k2⟩ := h a _ hk ho (by simp);exact .slice esz a off len cs rows k1 k2 hl hr hn ih
 | agg cs ps hn _ ih => exact .agg cs ps hn ih
 | tuple cs ps hn _ ih => exact .tuple cs ps hn ih
 | func fn a b a' b' n1 _ n2 _ ih1 ih2 => exact .func fn a b a' b' n1 ih1 n2 ih2
 | iface t v x _ ih => exact .iface t v x ih
 | map r es ps hk ho hn hkk _ ih =>
  obtain ⟨k1, k2⟩ := h r _ hk ho (by simp);exact .map r es ps k1 k2 hn hkk ih

theorem Qki {H : List AObj} {v : AV} {x : PV} (h : Qmk H v = some x) : ∃ r cs', x = Z13 r cs' ∧ ∃ cs rest, H = .cells cs :: rest ∧ FrzL (fun a => a ≠ 0) H cs cs' ∧ Frz (fun a => a ≠ 0) H v r := by
 unfold Qmk at h;split at h
 ·rename_i cs rest;split at h
  ·rename_i ps h1;split at h
   ·rename_i r h2;cases h
    have key : ∀ {K : Nat → Prop} {v : AV} {x : PV}, Frz K (AObj.dead :: rest) v x → Frz (fun a => a ≠ 0) (AObj.cells cs :: rest) v x := by
     intro K v x hf;refine Qxc (fun a o _ ho hc => ?_) hf
     cases a with
     | zero => simp at ho; exact absurd ho.symm hc
     | succ a => exact ⟨by simp, by simpa using ho⟩
    have q := Q69 _ _ h1;exact ⟨r, ps, rfl, cs, rest, rfl, ⟨q.1, fun i v x hv hx => key (q.2 i v x hv hx)⟩, key (Qc5 Z0l _ _ h2)⟩
   cases h
  cases h
 ·cases h

theorem Qdx (hkn : KnowOk2 P Gl kn) {E : Env (Option PV)} {f : Nat} {cells args : List PV} {x : PV} {cs' : List PV} (hE : Hom E (EP P Gl) (Z13 x cs')) (h : Qpw kn E f cells args = some (Z13 x cs')) : Z1z P Gl f cells args x cs' := by
 unfold Qpw at h
 cases hk : kn.meth f cells args with
 | some y =>
  rw [hk] at h; cases h;obtain ⟨y, cs'', e, q⟩ := hkn.meth f cells args _ hk;simp only [Z13, PV.tuple.injEq, Ca, PV.agg.injEq, and_true] at e;obtain ⟨rfl, rfl⟩ := e;exact q
 | none =>
  simp only [hk] at h
  cases ht : kn.tab f with
  | none => simp only [ht] at h; cases h
  | some cf =>
   simp only [ht, V3] at h;refine Qra (hkn.tab f cf ht) (Q6x hE (fun v H hv => ?_) h);obtain ⟨y', cs'', e, q⟩ := Qki hv;simp only [Z13, PV.tuple.injEq, Ca, PV.agg.injEq, and_true] at e;obtain ⟨rfl, rfl⟩ := e;exact q

theorem Qu3 (hkn : KnowOk2 P Gl kn) {β : Type} {EV : Env (Option PV)} (hEV : ∀ r, Hom EV (EP P Gl) r) {r : β} {inl : Nat → List AV → List AObj → (AV → List AObj → Option β) → Option β} {f : Nat} {args : List AV} {H : List AObj}
  {kO : AV → List AObj → Option β} {kP : AV → List AObj → Prop} (hk : ∀ v H', kO v H' = some r → kP v H') (hinl : inl f args H kO = some r → Xj P Gl f args H kP) (he : Z01 kn EV inl f args H kO = some r) : Xj P Gl f args H kP := by
 unfold Z01 at he;split at he
 ·rename_i pa h1;split at he
  ·rename_i x h2;exact Wu (Q2c hkn (hEV x) h2) (Q2z args pa h1) (hk _ _ he)
  exact hinl he
 split at he
 ·rename_i pa h1;split at he
  ·rename_i x h2;split at he
   ·rename_i h3;have q := Q69 args pa h1;exact Qck (Q2c hkn (hEV x) h2) ⟨q.1, fun i v x hv hx => Qfm (fun a o _ ho => ⟨trivial, ho⟩) (q.2 i v x hv hx)⟩ h3 (hk _ _ he)
   exact hinl he
  exact hinl he
 ·split at he
  ·rename_i a rest _ _;split at he
   ·rename_i pr h1;split at he
    ·rename_i cs ha;split at he
     ·rename_i cells hc;split at he
      ·split at he
       ·rename_i x cells' h2;exact Qkl (Qdx hkn (hEV _) h2) (by rw [ha, Qmr _ _ hc]) (Q2z rest pr h1) (hk _ _ he)
       exact hinl he
      exact hinl he
     exact hinl he
    exact hinl he
   exact hinl he
  ·exact hinl he

theorem Qqd (hkn : KnowOk2 P Gl kn) {β : Type} {EA : Env (Option AV)} (hEA : ∀ r, Hom EA (EP P Gl) r) {r : β} {f : Nat} {args : List AV} {H : List AObj} {R : List Nat}
  {kO : AV → List AObj → List Nat → List Nat → Option β} {kP : AV → List AObj → List Nat → List Nat → Prop} (hk : ∀ v H' R A, kO v H' R A = some r → kP v H' R A) {z : Unit → Option β} (hz : z () = some r → Vn P Gl f args H kP) (he : Qul none z kn EA f args H R kO = some r) : Vn P Gl f args H kP := by
 unfold Qul at he;split at he
 ·rename_i v hv;unfold Z30 at hv;split at hv
  ·rename_i h1;split at hv
   ·rename_i h2;split at hv
    ·rename_i cf hcf;split at he
     ·rename_i hr
      have hc : Xj P Gl f args (Qjy R H) (fun v0 H' => v0 = v ∧ ∃ rest, H' = Qjy R H ++ rest) := Qi (hkn.tab f cf hcf) (Q6x (hEA v) (fun v0 H' h => by
       split at h
       ·rename_i hp; cases h; exact ⟨rfl, Qpu _ _ hp⟩
       cases h) hv)
      refine Q56 R h1 hr (fun a ha o ho => ?_) hc (hk _ _ _ _ he);have := Lw.1 h2 a ha;rw [ho] at this; exact this
     exact hz he
    cases hv
   cases hv
  cases hv
 exact hz he
theorem Q3r (hkn : KnowOk2 P Gl kn) {β : Type} {EA : Env (Option AV)} (hEA : ∀ r, Hom EA (EP P Gl) r) {r : β} {f : Nat} {args : List AV} {H : List AObj}
  {kO : AV → List AObj → List Nat → List Nat → Option β} {kP : AV → List AObj → List Nat → List Nat → Prop} (hk : ∀ v H' R A, kO v H' R A = some r → kP v H' R A) {z : Unit → Option β} (hz : z () = some r → Vn P Gl f args H kP) (he : Qba none z kn EA f args H kO = some r) : Vn P Gl f args H kP := by
 unfold Qba at he;split at he
 ·rename_i v hv;unfold Z3c at hv;split at hv
  ·rename_i h1;split at hv
   ·rename_i cf hcf;split at he
    ·rename_i hr;have hc : Xj P Gl f args (List.replicate H.length .dead) (fun v0 _ => v0 = v) := Qi (hkn.tab f cf hcf) (Q6x (hEA v) (fun v0 H' h => by cases h; rfl) hv);exact .inl ⟨[], [], v, fun s h => (by cases h), fun H2 _ => Q9p (Qqh h1 hr hc H2) (fun v' H' ⟨e1, e2⟩ => ⟨e1, e2⟩), hk _ _ _ _ he⟩
    exact hz he
   cases hv
  cases hv
 exact Qqd hkn hEA hk hz he
theorem Qld (hkn : KnowOk2 P Gl kn) {β : Type} {EV : Env (Option PV)} (hEV : ∀ r, Hom EV (EP P Gl) r) {EA : Env (Option AV)} (hEA : ∀ r, Hom EA (EP P Gl) r) {r : β} {f : Nat} {args : List AV} {H : List AObj}
  {kO : AV → List AObj → List Nat → List Nat → Option β} {kP : AV → List AObj → List Nat → List Nat → Prop} (hk : ∀ v H' R A, kO v H' R A = some r → kP v H' R A) (he : Qzo none kn EV EA f args H kO = some r) : Vn P Gl f args H kP := by
 unfold Qzo at he;split at he
 ·rename_i pa h1;split at he
  ·rename_i x h2;have hp := Q2c hkn (hEV x) h2;exact .inl ⟨[], [], .p x, fun s h => (by cases h), fun H2 _ => Wu hp (Q2z args pa h1) ⟨rfl, rfl⟩, hk _ _ _ _ he⟩
  cases he
 split at he
 ·rename_i pa h1;split at he
  ·rename_i x h2;split at he
   ·rename_i h3;have q := Q69 args pa h1;have hp := Q2c hkn (hEV x) h2;exact .inl ⟨Qav H args, [], .p x, fun s h => (by cases h), fun H2 hH2 => Qck hp ⟨q.1, fun i v x hv hx => Qfm (fun a o hk ho => ⟨trivial, hH2 a hk o ho⟩) (q.2 i v x hv hx)⟩ h3 ⟨rfl, rfl⟩, hk _ _ _ _ he⟩
   refine Q3r hkn hEA hk (fun hz => ?_) he;split at hz
   ·rename_i hR;have q := Q69 args pa h1;have hp := Q2c hkn (hEV x) h2;exact Qqv _ hp q (fun a ha => by simpa using Lw.1 hR a ha) (hk _ _ _ _ hz)
   cases hz
  exact Q3r hkn hEA hk (fun h => by cases h) he
 ·split at he
  ·rename_i a rest _ _;split at he
   ·rename_i pr h1;split at he
    ·rename_i cs ha;split at he
     ·rename_i cells hc;split at he
      ·rename_i x cells' h2;have hm := Qdx hkn (hEV _) h2;refine .inl ⟨[a], [(a, .cells (cells'.map .p))], .p x, fun s hs => ?_, fun H2 hH2 => ?_, hk _ _ _ _ he⟩
       ·simp at hs; subst hs; exact (Lb.1 ha).1
       refine Qkl hm ?_ (Q2z rest pr h1) ⟨rfl, rfl⟩;rw [hH2 a (by simp) _ ha, Qmr _ _ hc]
      exact Q3r hkn hEA hk (fun h => by cases h) he
     exact Q3r hkn hEA hk (fun h => by cases h) he
    exact Q3r hkn hEA hk (fun h => by cases h) he
   exact Q3r hkn hEA hk (fun h => by cases h) he
  ·exact Q3r hkn hEA hk (fun h => by cases h) he

theorem Qfh : ∀ (cs : List COper) (j : Nat), cs = (Q8f j cs).1 ++ (Q8f j cs).2 ∧ Qq9 (j + (Q8f j cs).1.length) (Q8f j cs).2 = true
 | [], j => ⟨rfl, rfl⟩
 | c :: r, j => by
  simp only [Q8f];split
  ·rename_i ht; exact ⟨rfl, ht⟩
  obtain ⟨h1, h2⟩ := Qfh r (j + 1);refine ⟨by simp only [Bj]; rw [← h1], ?_⟩;rw [Lj, show j + ((Q8f (j + 1) r).1.length + 1) = j + 1 + (Q8f (j + 1) r).1.length by omega]; exact h2
theorem Qpl (hkn : KnowOk2 P Gl kn) (N : Nat) : ∀ (d : Nat) (β : Type) (r : β), Hom (Qjw kn Gl N d β) (EP P Gl) r
 | 0, β, r => ⟨rfl, rfl, fun f a H kO kP hk he => (by simp only [Qjw] at he; cases he), fun b tm H kO kP hk he => (by simp only [Qjw] at he; cases he), fun a b tm H kO kP hk he => (by simp only [Qjw] at he; cases he), fun b tm H kO kP hk he => (by simp only [Qjw] at he; cases he)⟩
 | d + 1, β, r => by
  have ih := Qpl hkn N d;refine ⟨rfl, rfl, fun f a H kO kP hk he => ?_, fun b tm H kO kP hk he => ?_, fun a b tm H kO kP hk he => ?_, fun ops tm H kO kP hk he => ?_⟩
  ·simp only [Qjw] at he;refine Qu3 hkn (ih PV) hk (fun he => ?_) he
   cases ht : kn.tab f with
   | none => simp only [ht] at he; cases he
   | some cf =>
    simp only [ht] at he;exact Qi (hkn.tab f cf ht) (Q6x (ih β r) hk he)
  ·simp only [Qjw] at he;exact Zb N (Qk9 (ih β r) hk N tm H he)
  ·simp only [Qjw] at he;refine Y5 (Qbb (ih β r) a tm H _ _ (fun e v H' hv => ?_) he)
   cases e with
   | normal => exact Qbb (ih β r) b v H' kO kP hk hv
   | exit i => exact hk _ _ _ hv
   | ret => exact hk _ _ _ hv
  ·simp only [Qjw] at he;obtain ⟨h1, h2⟩ := Qfh ops 0;rw [Mk] at h2;generalize (Q8f 0 ops).1 = pre at he h1 h2;generalize (Q8f 0 ops).2 = suf at he h1 h2;subst h1
   cases suf with
   | nil =>
    rw [Nc];exact Qa (Q9q (dP := Vn P Gl) (ih β r) (fun f a H kO kP hk he => Qld hkn (ih PV) (ih AV) hk he) hk pre tm H 0 [] he)
   | cons c0 suf => exact Quf h2 (Q9q (dP := Vn P Gl) (ih β r) (fun f a H kO kP hk he => Qld hkn (ih PV) (ih AV) hk he) (fun tm' H' hv => Qch (ih β r) hk _ tm' H' hv) pre tm H 0 [] he)

theorem Qg (hkn : KnowOk2 P Gl kn) {N d : Nat} {f : Nat} {args : List PV} {r : PV} (h : Qg6 kn (Qjw kn Gl N d PV) f args = some r) : Gv P Gl f args r :=
 Q2c hkn (Qpl hkn N d PV r) h
end
end
end Go.Av
