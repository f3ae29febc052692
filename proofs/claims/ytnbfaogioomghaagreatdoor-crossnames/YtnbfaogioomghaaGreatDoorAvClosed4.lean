/- Part of the proof of CrossNames: for every input the law returns true; no condition. -/
import Derived.Test.YtnbfaogioomghaaGreatDoorAvClosed2
import Derived.Test.YtnbfaogioomghaaGreatDoorAvDrawt
import Derived.Test.YtnbfaogioomghaaGreatDoorAvMeth
import Derived.Test.YtnbfaogioomghaaGreatDoorAvTrans
import Derived.Test.YtnbfaogioomghaaGreatDoorAvFrame
import Derived.Test.YtnbfaogioomghaaGreatDoorAvEq
namespace Go.Av
noncomputable section

structure Know2 where
 tab : Nat → Option CFunc
 known : Nat → List PV → Option PV
 meth : Nat → List PV → List PV → Option PV

def Qgd (r : PV) (cells : List PV) : PV := .tuple [r, .agg cells]

def Q81 : List AObj → AV → Option PV
 | .cells cs :: rest, v => match Q2l (.dead :: rest) cs with
  | some ps => match Qao Qg6 (.dead :: rest) v with
   | some r => some (Qgd r ps)
   | none => none
  | none => none
 | _, _ => none

def Jo (kn : Know2) (E : Env (Option PV)) (f : Nat) (args : List PV) : Option PV := match kn.known f args with
 | some r => some r
 | none => match kn.tab f with
  | some cf => Q0f .p args fun args => W6 E cf args [] (fun v H => Qao Qg6 H v)
  | none => none
def Q6k (kn : Know2) (E : Env (Option PV)) (f : Nat) (cells args : List PV) : Option PV := match kn.meth f cells args with
 | some r => some r
 | none => match kn.tab f with
  | some cf => Q0f .p args fun args => Q0f .p cells fun cells => W6 E cf (.ptr 0 0 :: args) [.cells cells] (fun v H => Q81 H v)
  | none => none

def Qgq : List AV → Option (List PV)
 | [] => some []
 | .p x :: r => match Qgq r with
  | some ps => some (x :: ps)
  | none => none
 | _ :: _ => none
theorem Q51 : ∀ (cs : List AV) (ps : List PV), Qgq cs = some ps → cs = ps.map .p
 | [], ps, h => by simp only [Qgq] at h; cases h; rfl
 | c :: cs, ps, h => by
  cases c <;> simp only [Qgq] at h <;> try (cases h; done)
  split at h
  ·rename_i x ps' h1;cases h;rw [Q51 cs ps' h1]; rfl
  cases h
def Q4s : List PV → Bool
 | [] => true
 | .int _ _ :: r => Q4s r
 | .bool _ :: r => Q4s r
 | .str _ :: r => Q4s r
 | _ :: _ => false
def Qdv {α : Type} (kn : Know2) (EV : Env (Option PV)) (inl : Nat → List AV → List AObj → (AV → List AObj → α) → α) (f : Nat) (args : List AV) (H : List AObj) (k : AV → List AObj → α) : α :=
 match AV.toPVs args with
 | some pa => match Jo kn EV f pa with
  | some r => k (.p r) H
  | none => inl f args H k
 | none => match Q2l H args with
  | some pa => match Jo kn EV f pa with
   | some r => match Vu r with
    | true => k (.p r) H
    | false => inl f args H k
   | none => inl f args H k
  | none => match args with
  | .ptr a 0 :: rest => match AV.toPVs rest with
   | some pr => match H[a]? with
    | some (.cells cs) => match Qgq cs with
     | some cells => match Q4s cells with
      | true => match Q6k kn EV f cells pr with
       | some (.tuple [r, .agg cells']) => k (.p r) (H.set a (.cells (cells'.map .p)))
       | _ => inl f args H k
      | false => inl f args H k
     | none => inl f args H k
    | _ => inl f args H k
   | none => inl f args H k
  | _ => inl f args H k
def Qh7 (kn : Know2) (EA : Env (Option AV)) (f : Nat) (args : List AV) (n : Nat) : Option AV := match refsLt.refsLts n args with
 | true => match kn.tab f with
  | some cf => W6 EA cf args (List.replicate n .dead) (fun v _ => some v)
  | none => none
 | false => none
def Qgy (kn : Know2) (EA : Env (Option AV)) (f : Nat) (args : List AV) (H : List AObj) (R : List Nat) : Option AV := match refsLt.refsLts H.length args with
 | true => match R.all (fun a => match H[a]? with | some o => Xm H.length o | none => true) with
  | true => match kn.tab f with
   | some cf => W6 EA cf args (Q5p R H) (fun v H' => match Qcm (Q5p R H) H' with
    | true => some v
    | false => none)
   | none => none
  | false => none
 | false => none
def Qc9 (R : List Nat) : List (Nat × AObj) := R.map fun a => (a, .dead)
def Qc5 {α : Type} (fail : α) (z : Unit → α) (kn : Know2) (EA : Env (Option AV)) (f : Nat) (args : List AV) (H : List AObj) (R : List Nat) (k : AV → List AObj → List Nat → List Nat → α) : α := match Qgy kn EA f args H R with
 | some v => match refsLt H.length v with
  | true => k v H R []
  | false => z ()
 | none => z ()
def Wo {α : Type} (fail : α) (z : Unit → α) (kn : Know2) (EA : Env (Option AV)) (f : Nat) (args : List AV) (H : List AObj) (k : AV → List AObj → List Nat → List Nat → α) : α := match Qh7 kn EA f args H.length with
 | some v => match refsLt H.length v with
  | true => k v H [] []
  | false => z ()
 | none => Qc5 fail z kn EA f args H (args.flatMap (Q5i 12 H)) k
def Qfg {α : Type} (fail : α) (kn : Know2) (EV : Env (Option PV)) (EA : Env (Option AV)) (f : Nat) (args : List AV) (H : List AObj) (k : AV → List AObj → List Nat → List Nat → α) : α :=
 match AV.toPVs args with
 | some pa => match Jo kn EV f pa with
  | some r => k (.p r) H [] []
  | none => fail
 | none => match Q2l H args with
  | some pa => match Jo kn EV f pa with
   | some r => match Vu r with
    | true => k (.p r) H (Xv H args) []
    | false => Wo fail (fun _ => match (Xv H args).all (fun a => Nat.blt a H.length) with
     | true => k (.p r) (Xn (Qc9 (Xv H args)) H) (Xv H args) (Xv H args)
     | false => fail) kn EA f args H k
   | none => Wo fail (fun _ => fail) kn EA f args H k
  | none => match args with
  | .ptr a 0 :: rest => match AV.toPVs rest with
   | some pr => match H[a]? with
    | some (.cells cs) => match Qgq cs with
     | some cells => match Q6k kn EV f cells pr with
      | some (.tuple [r, .agg cells']) => k (.p r) (H.set a (.cells (cells'.map .p))) [a] [a]
      | _ => Wo fail (fun _ => fail) kn EA f args H k
     | none => Wo fail (fun _ => fail) kn EA f args H k
    | _ => Wo fail (fun _ => fail) kn EA f args H k
   | none => Wo fail (fun _ => fail) kn EA f args H k
  | _ => Wo fail (fun _ => fail) kn EA f args H k

def Wp : Nat → List COper → List COper × List COper
 | _, [] => ([], [])
 | j, c :: r => match Q3d j (c :: r) with
  | true => ([], c :: r)
  | false => match Wp (j + 1) r with
   | (a, b) => (c :: a, b)
def Q4r (kn : Know2) (Gl : Nat → Option (List PV)) (N : Nat) : Nat → (β : Type) → Env (Option β)
 | 0, _ => { fail := none, cmp := ⟨Qi, rfl⟩, scmp := ⟨Q7f, rfl⟩, glob := Gl, call := fun _ _ _ _ => none, loop := fun _ _ _ _ => none, join := fun _ _ _ _ _ => none, draw := fun _ _ _ _ => none }
 | d + 1, β => Env.mk none ⟨Qi, rfl⟩ ⟨Q7f, rfl⟩ Gl
   (Qdv kn (Q4r kn Gl N d PV) fun f args H k => match kn.tab f with
     | some cf => W6 (Q4r kn Gl N d β) cf args H k
     | none => none)
   (fun b tm H k => Q5v (Q4r kn Gl N d β) b N tm H k)
   (fun a b tm H k => ev (Q4r kn Gl N d β) a tm H fun e tm H => match e with
    | .normal => ev (Q4r kn Gl N d β) b tm H k
    | .exit i => k (.exit i) tm H
    | .ret => k .ret tm H)
   (fun ops tm H k => match Wp 0 ops with
    | (pre, suf) => Y0 (Q4r kn Gl N d β) (Qfg none kn (Q4r kn Gl N d PV) (Q4r kn Gl N d AV)) (fun tm H => Zp (Q4r kn Gl N d β) k suf tm H) pre tm H 0 [])
section
variable {P : Program} {Gl : Nat → Option (List PV)} {kn : Know2}

structure KnowOk2 (P : Program) (Gl : Nat → Option (List PV)) (kn : Know2) : Prop where
 tab : ∀ f cf, kn.tab f = some cf → Xb P f cf = true
 known : ∀ f args r, kn.known f args = some r → Pure P Gl f args r
 meth : ∀ f cells args r, kn.meth f cells args = some r → ∃ x cs', r = Qgd x cs' ∧ Qho P Gl f cells args x cs'

theorem Zg (hkn : KnowOk2 P Gl kn) {E : Env (Option PV)} {f : Nat} {args : List PV} {r : PV} (hE : Hom E (EP P Gl) r) (h : Jo kn E f args = some r) : Pure P Gl f args r := by
 unfold Jo at h
 cases hk : kn.known f args with
 | some x => rw [hk] at h; cases h; exact hkn.known f args _ hk
 | none =>
  simp only [hk] at h
  cases ht : kn.tab f with
  | none => simp only [ht] at h; cases h
  | some cf =>
   simp only [ht, Zb] at h;exact Q8 (hkn.tab f cf ht) (Xz hE (fun v H hv => Q1w (fun _ _ _ ho => ⟨trivial, ho⟩) (Q0b Qg6 v r hv)) h)

theorem Qe8 {H1 H2 : List AObj} {K1 K2 : Nat → Prop} (h : ∀ a o, K1 a → H1[a]? = some o → o ≠ .dead → K2 a ∧ H2[a]? = some o) {v : AV} {x : PV} (hf : Frz K1 H1 v x) : Frz K2 H2 v x := by
 induction hf with
 | p x => exact .p x
 | nil esz => exact .nil esz
 | zero esz => exact .zero esz
 | slice esz a off len cs rows hk ho hl hr hn hv ih =>
  obtain ⟨k1, k2⟩ := h a _ hk ho (by simp);exact .slice esz a off len cs rows k1 k2 hl hr hn ih
 | agg cs ps hn _ ih => exact .agg cs ps hn ih
 | tuple cs ps hn _ ih => exact .tuple cs ps hn ih
 | func fn a b a' b' n1 _ n2 _ ih1 ih2 => exact .func fn a b a' b' n1 ih1 n2 ih2
 | iface t v x _ ih => exact .iface t v x ih
 | map r es ps hk ho hn hkk _ ih =>
  obtain ⟨k1, k2⟩ := h r _ hk ho (by simp);exact .map r es ps k1 k2 hn hkk ih

theorem Q79 {H : List AObj} {v : AV} {x : PV} (h : Q81 H v = some x) : ∃ r cs', x = Qgd r cs' ∧ ∃ cs rest, H = .cells cs :: rest ∧ FrzL (fun a => a ≠ 0) H cs cs' ∧ Frz (fun a => a ≠ 0) H v r := by
 unfold Q81 at h;split at h
 ·rename_i cs rest;split at h
  ·rename_i ps h1;split at h
   ·rename_i r h2;cases h
    have key : ∀ {K : Nat → Prop} {v : AV} {x : PV}, Frz K (AObj.dead :: rest) v x → Frz (fun a => a ≠ 0) (AObj.cells cs :: rest) v x := by
     intro K v x hf;refine Qe8 (fun a o _ ho hc => ?_) hf
     cases a with
     | zero => simp at ho; exact absurd ho.symm hc
     | succ a => exact ⟨by simp, by simpa using ho⟩
    have q := Xe _ _ h1;exact ⟨r, ps, rfl, cs, rest, rfl, ⟨q.1, fun i v x hv hx => key (q.2 i v x hv hx)⟩, key (Q0b Qg6 _ _ h2)⟩
   cases h
  cases h
 ·cases h

theorem Uk (hkn : KnowOk2 P Gl kn) {E : Env (Option PV)} {f : Nat} {cells args : List PV} {x : PV} {cs' : List PV} (hE : Hom E (EP P Gl) (Qgd x cs')) (h : Q6k kn E f cells args = some (Qgd x cs')) : Qho P Gl f cells args x cs' := by
 unfold Q6k at h
 cases hk : kn.meth f cells args with
 | some y =>
  rw [hk] at h; cases h;obtain ⟨y, cs'', e, q⟩ := hkn.meth f cells args _ hk;simp only [Qgd, PV.tuple.injEq, List.cons.injEq, PV.agg.injEq, and_true] at e;obtain ⟨rfl, rfl⟩ := e;exact q
 | none =>
  simp only [hk] at h
  cases ht : kn.tab f with
  | none => simp only [ht] at h; cases h
  | some cf =>
   simp only [ht, Zb] at h;refine Qan (hkn.tab f cf ht) (Xz hE (fun v H hv => ?_) h);obtain ⟨y', cs'', e, q⟩ := Q79 hv;simp only [Qgd, PV.tuple.injEq, List.cons.injEq, PV.agg.injEq, and_true] at e;obtain ⟨rfl, rfl⟩ := e;exact q

theorem Q6l (hkn : KnowOk2 P Gl kn) {β : Type} {EV : Env (Option PV)} (hEV : ∀ r, Hom EV (EP P Gl) r) {r : β} {inl : Nat → List AV → List AObj → (AV → List AObj → Option β) → Option β} {f : Nat} {args : List AV} {H : List AObj}
  {kO : AV → List AObj → Option β} {kP : AV → List AObj → Prop} (hk : ∀ v H', kO v H' = some r → kP v H') (hinl : inl f args H kO = some r → Ze P Gl f args H kP) (he : Qdv kn EV inl f args H kO = some r) : Ze P Gl f args H kP := by
 unfold Qdv at he;split at he
 ·rename_i pa h1;split at he
  ·rename_i x h2;exact Y1 (Zg hkn (hEV x) h2) (Yp args pa h1) (hk _ _ he)
  exact hinl he
 split at he
 ·rename_i pa h1;split at he
  ·rename_i x h2;split at he
   ·rename_i h3;have q := Xe args pa h1;exact Q00 (Zg hkn (hEV x) h2) ⟨q.1, fun i v x hv hx => Q1w (fun a o _ ho => ⟨trivial, ho⟩) (q.2 i v x hv hx)⟩ h3 (hk _ _ he)
   exact hinl he
  exact hinl he
 ·split at he
  ·rename_i a rest _ _;split at he
   ·rename_i pr h1;split at he
    ·rename_i cs ha;split at he
     ·rename_i cells hc;split at he
      ·split at he
       ·rename_i x cells' h2;exact Q22 (Uk hkn (hEV _) h2) (by rw [ha, Q51 _ _ hc]) (Yp rest pr h1) (hk _ _ he)
       exact hinl he
      exact hinl he
     exact hinl he
    exact hinl he
   exact hinl he
  ·exact hinl he

theorem Qa3 (hkn : KnowOk2 P Gl kn) {β : Type} {EA : Env (Option AV)} (hEA : ∀ r, Hom EA (EP P Gl) r) {r : β} {f : Nat} {args : List AV} {H : List AObj} {R : List Nat}
  {kO : AV → List AObj → List Nat → List Nat → Option β} {kP : AV → List AObj → List Nat → List Nat → Prop} (hk : ∀ v H' R A, kO v H' R A = some r → kP v H' R A) {z : Unit → Option β} (hz : z () = some r → Z6 P Gl f args H kP) (he : Qc5 none z kn EA f args H R kO = some r) : Z6 P Gl f args H kP := by
 unfold Qc5 at he;split at he
 ·rename_i v hv;unfold Qgy at hv;split at hv
  ·rename_i h1;split at hv
   ·rename_i h2;split at hv
    ·rename_i cf hcf;split at he
     ·rename_i hr
      have hc : Ze P Gl f args (Q5p R H) (fun v0 H' => v0 = v ∧ ∃ rest, H' = Q5p R H ++ rest) := Q10 (hkn.tab f cf hcf) (Xz (hEA v) (fun v0 H' h => by
       split at h
       ·rename_i hp; cases h; exact ⟨rfl, Q9j _ _ hp⟩
       cases h) hv)
      refine Q7m R h1 hr (fun a ha o ho => ?_) hc (hk _ _ _ _ he);have := Lp.1 h2 a ha;rw [ho] at this; exact this
     exact hz he
    cases hv
   cases hv
  cases hv
 exact hz he
theorem Z8 (hkn : KnowOk2 P Gl kn) {β : Type} {EA : Env (Option AV)} (hEA : ∀ r, Hom EA (EP P Gl) r) {r : β} {f : Nat} {args : List AV} {H : List AObj}
  {kO : AV → List AObj → List Nat → List Nat → Option β} {kP : AV → List AObj → List Nat → List Nat → Prop} (hk : ∀ v H' R A, kO v H' R A = some r → kP v H' R A) {z : Unit → Option β} (hz : z () = some r → Z6 P Gl f args H kP) (he : Wo none z kn EA f args H kO = some r) : Z6 P Gl f args H kP := by
 unfold Wo at he;split at he
 ·rename_i v hv;unfold Qh7 at hv;split at hv
  ·rename_i h1;split at hv
   ·rename_i cf hcf;split at he
    ·rename_i hr;have hc : Ze P Gl f args (List.replicate H.length .dead) (fun v0 _ => v0 = v) := Q10 (hkn.tab f cf hcf) (Xz (hEA v) (fun v0 H' h => by cases h; rfl) hv);exact .inl ⟨[], [], v, fun s h => (by cases h), fun H2 _ => J7 (Qav h1 hr hc H2) (fun v' H' ⟨e1, e2⟩ => ⟨e1, e2⟩), hk _ _ _ _ he⟩
    exact hz he
   cases hv
  cases hv
 exact Qa3 hkn hEA hk hz he
theorem Q5r (hkn : KnowOk2 P Gl kn) {β : Type} {EV : Env (Option PV)} (hEV : ∀ r, Hom EV (EP P Gl) r) {EA : Env (Option AV)} (hEA : ∀ r, Hom EA (EP P Gl) r) {r : β} {f : Nat} {args : List AV} {H : List AObj}
  {kO : AV → List AObj → List Nat → List Nat → Option β} {kP : AV → List AObj → List Nat → List Nat → Prop} (hk : ∀ v H' R A, kO v H' R A = some r → kP v H' R A) (he : Qfg none kn EV EA f args H kO = some r) : Z6 P Gl f args H kP := by
 unfold Qfg at he;split at he
 ·rename_i pa h1;split at he
  ·rename_i x h2;have hp := Zg hkn (hEV x) h2;exact .inl ⟨[], [], .p x, fun s h => (by cases h), fun H2 _ => Y1 hp (Yp args pa h1) ⟨rfl, rfl⟩, hk _ _ _ _ he⟩
  cases he
 split at he
 ·rename_i pa h1;split at he
  ·rename_i x h2;split at he
   ·rename_i h3;have q := Xe args pa h1;have hp := Zg hkn (hEV x) h2;exact .inl ⟨Xv H args, [], .p x, fun s h => (by cases h), fun H2 hH2 => Q00 hp ⟨q.1, fun i v x hv hx => Q1w (fun a o hk ho => ⟨trivial, hH2 a hk o ho⟩) (q.2 i v x hv hx)⟩ h3 ⟨rfl, rfl⟩, hk _ _ _ _ he⟩
   refine Z8 hkn hEA hk (fun hz => ?_) he;split at hz
   ·rename_i hR;have q := Xe args pa h1;have hp := Zg hkn (hEV x) h2;exact Q0v _ hp q (fun a ha => by simpa using Lp.1 hR a ha) (hk _ _ _ _ hz)
   cases hz
  exact Z8 hkn hEA hk (fun h => by cases h) he
 ·split at he
  ·rename_i a rest _ _;split at he
   ·rename_i pr h1;split at he
    ·rename_i cs ha;split at he
     ·rename_i cells hc;split at he
      ·rename_i x cells' h2;have hm := Uk hkn (hEV _) h2;refine .inl ⟨[a], [(a, .cells (cells'.map .p))], .p x, fun s hs => ?_, fun H2 hH2 => ?_, hk _ _ _ _ he⟩
       ·simp at hs; subst hs; exact (La.1 ha).1
       refine Q22 hm ?_ (Yp rest pr h1) ⟨rfl, rfl⟩;rw [hH2 a (by simp) _ ha, Q51 _ _ hc]
      exact Z8 hkn hEA hk (fun h => by cases h) he
     exact Z8 hkn hEA hk (fun h => by cases h) he
    exact Z8 hkn hEA hk (fun h => by cases h) he
   exact Z8 hkn hEA hk (fun h => by cases h) he
  ·exact Z8 hkn hEA hk (fun h => by cases h) he

theorem G2 : ∀ (cs : List COper) (j : Nat), cs = (Wp j cs).1 ++ (Wp j cs).2 ∧ Q3d (j + (Wp j cs).1.length) (Wp j cs).2 = true
 | [], j => ⟨rfl, rfl⟩
 | c :: r, j => by
  simp only [Wp];split
  ·rename_i ht; exact ⟨rfl, ht⟩
  obtain ⟨h1, h2⟩ := G2 r (j + 1);refine ⟨by simp only [Nw]; rw [← h1], ?_⟩;rw [Mg, show j + ((Wp (j + 1) r).1.length + 1) = j + 1 + (Wp (j + 1) r).1.length by omega]; exact h2
theorem Q8m (hkn : KnowOk2 P Gl kn) (N : Nat) : ∀ (d : Nat) (β : Type) (r : β), Hom (Q4r kn Gl N d β) (EP P Gl) r
 | 0, β, r => ⟨rfl, rfl, fun f a H kO kP hk he => (by simp only [Q4r] at he; cases he), fun b tm H kO kP hk he => (by simp only [Q4r] at he; cases he), fun a b tm H kO kP hk he => (by simp only [Q4r] at he; cases he), fun b tm H kO kP hk he => (by simp only [Q4r] at he; cases he)⟩
 | d + 1, β, r => by
  have ih := Q8m hkn N d;refine ⟨rfl, rfl, fun f a H kO kP hk he => ?_, fun b tm H kO kP hk he => ?_, fun a b tm H kO kP hk he => ?_, fun ops tm H kO kP hk he => ?_⟩
  ·simp only [Q4r] at he;refine Q6l hkn (ih PV) hk (fun he => ?_) he
   cases ht : kn.tab f with
   | none => simp only [ht] at he; cases he
   | some cf =>
    simp only [ht] at he;exact Q10 (hkn.tab f cf ht) (Xz (ih β r) hk he)
  ·simp only [Q4r] at he;exact Q1s N (Q38 (ih β r) hk N tm H he)
  ·simp only [Q4r] at he;refine Q9d (J0 (ih β r) a tm H _ _ (fun e v H' hv => ?_) he)
   cases e with
   | normal => exact J0 (ih β r) b v H' kO kP hk hv
   | exit i => exact hk _ _ _ hv
   | ret => exact hk _ _ _ hv
  ·simp only [Q4r] at he;obtain ⟨h1, h2⟩ := G2 ops 0;rw [Ly] at h2;generalize (Wp 0 ops).1 = pre at he h1 h2;generalize (Wp 0 ops).2 = suf at he h1 h2;subst h1
   cases suf with
   | nil =>
    rw [Nj];exact Z1 (Xw (dP := Z6 P Gl) (ih β r) (fun f a H kO kP hk he => Q5r hkn (ih PV) (ih AV) hk he) hk pre tm H 0 [] he)
   | cons c0 suf => exact Q6u h2 (Xw (dP := Z6 P Gl) (ih β r) (fun f a H kO kP hk he => Q5r hkn (ih PV) (ih AV) hk he) (fun tm' H' hv => Vq (ih β r) hk _ tm' H' hv) pre tm H 0 [] he)

theorem Qc (hkn : KnowOk2 P Gl kn) {N d : Nat} {f : Nat} {args : List PV} {r : PV} (h : Jo kn (Q4r kn Gl N d PV) f args = some r) : Pure P Gl f args r :=
 Zg hkn (Q8m hkn N d PV r) h
end
end
end Go.Av
