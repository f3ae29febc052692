/- Part of the proof of CrossBack: for every input the law returns true; no condition. -/
import Derived.Test.YthdffmbnmkmhlaaGreatDoorAvClosed2
import Derived.Test.YthdffmbnmkmhlaaGreatDoorAvDrawt
import Derived.Test.YthdffmbnmkmhlaaGreatDoorAvMeth
import Derived.Test.YthdffmbnmkmhlaaGreatDoorAvTrans
import Derived.Test.YthdffmbnmkmhlaaGreatDoorAvFrame
import Derived.Test.YthdffmbnmkmhlaaGreatDoorAvEq
namespace Go.Av
noncomputable section

structure Know2 where
 tab : Nat → Option CFunc
 known : Nat → List PV → Option PV
 meth : Nat → List PV → List PV → Option PV

def Z0k (r : PV) (cells : List PV) : PV := .tuple [r, .agg cells]

def Qmr : List AObj → AV → Option PV
 | .cells cs :: rest, v => match Qiw (.dead :: rest) cs with
  | some ps => match Qqc Z1n (.dead :: rest) v with
   | some r => some (Z0k r ps)
   | none => none
  | none => none
 | _, _ => none

def Qem (kn : Know2) (E : Env (Option PV)) (f : Nat) (args : List PV) : Option PV := match kn.known f args with
 | some r => some r
 | none => match kn.tab f with
  | some cf => Qb9 .p args fun args => Q4c E cf args [] (fun v H => Qqc Z1n H v)
  | none => none
def Qnj (kn : Know2) (E : Env (Option PV)) (f : Nat) (cells args : List PV) : Option PV := match kn.meth f cells args with
 | some r => some r
 | none => match kn.tab f with
  | some cf => Qb9 .p args fun args => Qb9 .p cells fun cells => Q4c E cf (.ptr 0 0 :: args) [.cells cells] (fun v H => Qmr H v)
  | none => none

def Z22 : List AV → Option (List PV)
 | [] => some []
 | .p x :: r => match Z22 r with
  | some ps => some (x :: ps)
  | none => none
 | _ :: _ => none
theorem Qmi : ∀ (cs : List AV) (ps : List PV), Z22 cs = some ps → cs = ps.map .p
 | [], ps, h => by simp only [Z22] at h; cases h; rfl
 | c :: cs, ps, h => by
  cases c <;> simp only [Z22] at h <;> try (cases h; done)
  split at h
  ·rename_i x ps' h1;cases h;rw [Qmi cs ps' h1]; rfl
  cases h
def Qic : List PV → Bool
 | [] => true
 | .int _ _ :: r => Qic r
 | .bool _ :: r => Qic r
 | .str _ :: r => Qic r
 | _ :: _ => false
def Z1f {α : Type} (kn : Know2) (EV : Env (Option PV)) (inl : Nat → List AV → List AObj → (AV → List AObj → α) → α) (f : Nat) (args : List AV) (H : List AObj) (k : AV → List AObj → α) : α :=
 match AV.toPVs args with
 | some pa => match Qem kn EV f pa with
  | some r => k (.p r) H
  | none => inl f args H k
 | none => match Qiw H args with
  | some pa => match Qem kn EV f pa with
   | some r => match Q6r r with
    | true => k (.p r) H
    | false => inl f args H k
   | none => inl f args H k
  | none => match args with
  | .ptr a 0 :: rest => match AV.toPVs rest with
   | some pr => match H[a]? with
    | some (.cells cs) => match Z22 cs with
     | some cells => match Qic cells with
      | true => match Qnj kn EV f cells pr with
       | some (.tuple [r, .agg cells']) => k (.p r) (H.set a (.cells (cells'.map .p)))
       | _ => inl f args H k
      | false => inl f args H k
     | none => inl f args H k
    | _ => inl f args H k
   | none => inl f args H k
  | _ => inl f args H k
def Z2e (kn : Know2) (EA : Env (Option AV)) (f : Nat) (args : List AV) (n : Nat) : Option AV := match refsLt.refsLts n args with
 | true => match kn.tab f with
  | some cf => Q4c EA cf args (List.replicate n .dead) (fun v _ => some v)
  | none => none
 | false => none
def Z2q (kn : Know2) (EA : Env (Option AV)) (f : Nat) (args : List AV) (H : List AObj) (R : List Nat) : Option AV := match refsLt.refsLts H.length args with
 | true => match R.all (fun a => match H[a]? with | some o => Q0w H.length o | none => true) with
  | true => match kn.tab f with
   | some cf => Q4c EA cf args (Qjb R H) (fun v H' => match Qv1 (Qjb R H) H' with
    | true => some v
    | false => none)
   | none => none
  | false => none
 | false => none
def Z18 (R : List Nat) : List (Nat × AObj) := R.map fun a => (a, .dead)
def Qum {α : Type} (fail : α) (z : Unit → α) (kn : Know2) (EA : Env (Option AV)) (f : Nat) (args : List AV) (H : List AObj) (R : List Nat) (k : AV → List AObj → List Nat → List Nat → α) : α := match Z2q kn EA f args H R with
 | some v => match refsLt H.length v with
  | true => k v H R []
  | false => z ()
 | none => z ()
def Qa0 {α : Type} (fail : α) (z : Unit → α) (kn : Know2) (EA : Env (Option AV)) (f : Nat) (args : List AV) (H : List AObj) (k : AV → List AObj → List Nat → List Nat → α) : α := match Z2e kn EA f args H.length with
 | some v => match refsLt H.length v with
  | true => k v H [] []
  | false => z ()
 | none => Qum fail z kn EA f args H (args.flatMap (Qkk 12 H)) k
def Z0j {α : Type} (fail : α) (kn : Know2) (EV : Env (Option PV)) (EA : Env (Option AV)) (f : Nat) (args : List AV) (H : List AObj) (k : AV → List AObj → List Nat → List Nat → α) : α :=
 match AV.toPVs args with
 | some pa => match Qem kn EV f pa with
  | some r => k (.p r) H [] []
  | none => fail
 | none => match Qiw H args with
  | some pa => match Qem kn EV f pa with
   | some r => match Q6r r with
    | true => k (.p r) H (Q8x H args) []
    | false => Qa0 fail (fun _ => match (Q8x H args).all (fun a => Nat.blt a H.length) with
     | true => k (.p r) (Q27 (Z18 (Q8x H args)) H) (Q8x H args) (Q8x H args)
     | false => fail) kn EA f args H k
   | none => Qa0 fail (fun _ => fail) kn EA f args H k
  | none => match args with
  | .ptr a 0 :: rest => match AV.toPVs rest with
   | some pr => match H[a]? with
    | some (.cells cs) => match Z22 cs with
     | some cells => match Qnj kn EV f cells pr with
      | some (.tuple [r, .agg cells']) => k (.p r) (H.set a (.cells (cells'.map .p))) [a] [a]
      | _ => Qa0 fail (fun _ => fail) kn EA f args H k
     | none => Qa0 fail (fun _ => fail) kn EA f args H k
    | _ => Qa0 fail (fun _ => fail) kn EA f args H k
   | none => Qa0 fail (fun _ => fail) kn EA f args H k
  | _ => Qa0 fail (fun _ => fail) kn EA f args H k

def Q7j : Nat → List COper → List COper × List COper
 | _, [] => ([], [])
 | j, c :: r => match Qpt j (c :: r) with
  | true => ([], c :: r)
  | false => match Q7j (j + 1) r with
   | (a, b) => (c :: a, b)
def Qi3 (kn : Know2) (Gl : Nat → Option (List PV)) (N : Nat) : Nat → (β : Type) → Env (Option β)
 | 0, _ => { fail := none, cmp := ⟨Q3, rfl⟩, scmp := ⟨Q35, rfl⟩, glob := Gl, call := fun _ _ _ _ => none, loop := fun _ _ _ _ => none, join := fun _ _ _ _ _ => none, draw := fun _ _ _ _ => none }
 | d + 1, β => Env.mk none ⟨Q3, rfl⟩ ⟨Q35, rfl⟩ Gl
   (Z1f kn (Qi3 kn Gl N d PV) fun f args H k => match kn.tab f with
     | some cf => Q4c (Qi3 kn Gl N d β) cf args H k
     | none => none)
   (fun b tm H k => Qn7 (Qi3 kn Gl N d β) b N tm H k)
   (fun a b tm H k => ev (Qi3 kn Gl N d β) a tm H fun e tm H => match e with
    | .normal => ev (Qi3 kn Gl N d β) b tm H k
    | .exit i => k (.exit i) tm H
    | .ret => k .ret tm H)
   (fun ops tm H k => match Q7j 0 ops with
    | (pre, suf) => Q0n (Qi3 kn Gl N d β) (Z0j none kn (Qi3 kn Gl N d PV) (Qi3 kn Gl N d AV)) (fun tm H => Q46 (Qi3 kn Gl N d β) k suf tm H) pre tm H 0 [])
section
variable {P : Program} {Gl : Nat → Option (List PV)} {kn : Know2}

structure KnowOk2 (P : Program) (Gl : Nat → Option (List PV)) (kn : Know2) : Prop where
 tab : ∀ f cf, kn.tab f = some cf → Q0i P f cf = true
 known : ∀ f args r, kn.known f args = some r → Q2j P Gl f args r
 meth : ∀ f cells args r, kn.meth f cells args = some r → ∃ x cs', r = Z0k x cs' ∧ Z26 P Gl f cells args x cs'

theorem Q1a (hkn : KnowOk2 P Gl kn) {E : Env (Option PV)} {f : Nat} {args : List PV} {r : PV} (hE : Hom E (EP P Gl) r) (h : Qem kn E f args = some r) : Q2j P Gl f args r := by
 unfold Qem at h
 cases hk : kn.known f args with
 | some x => rw [hk] at h; cases h; exact hkn.known f args _ hk
 | none =>
  simp only [hk] at h
  cases ht : kn.tab f with
  | none => simp only [ht] at h; cases h
  | some cf =>
   simp only [ht, U9] at h;exact Q2 (hkn.tab f cf ht) (Q57 hE (fun v H hv => Qfu (fun _ _ _ ho => ⟨trivial, ho⟩) (Qau Z1n v r hv)) h)

theorem Qvw {H1 H2 : List AObj} {K1 K2 : Nat → Prop} (h : ∀ a o, K1 a → H1[a]? = some o → o ≠ .dead → K2 a ∧ H2[a]? = some o) {v : AV} {x : PV} (hf : Frz K1 H1 v x) : Frz K2 H2 v x := by
 induction hf with
 | p x => exact .p x
 | nil esz => exact .nil esz
 | zero esz => exact .zero esz
 | slice esz a off len cs rows hk ho hl hr hn hv ih =>
  obtain ⟨k1, k2⟩ := h a _ hk ho (by simp);exact .slice esz a off len cs rows k1 k2 hl hr hn ih
 | agg cs ps hn _ ih => exact .agg cs ps hn ih
 | tuple cs ps hn _ ih => exact .tuple cs ps hn ih
 | func fn a b a' b' n1 _ n2 _ ih1 ih2 => exact .func fn a b a' b' n1 ih1 n2 ih2
 | iface t v x _ ih => exact .iface t v x ih
 | map r es ps hk ho hn hkk _ ih =>
  obtain ⟨k1, k2⟩ := h r _ hk ho (by simp);exact .map r es ps k1 k2 hn hkk ih

theorem Qlr {H : List AObj} {v : AV} {x : PV} (h : Qmr H v = some x) : ∃ r cs', x = Z0k r cs' ∧ ∃ cs rest, H = .cells cs :: rest ∧ FrzL (fun a => a ≠ 0) H cs cs' ∧ Frz (fun a => a ≠ 0) H v r := by
 unfold Qmr at h;split at h
 ·rename_i cs rest;split at h
  ·rename_i ps h1;split at h
   ·rename_i r h2;cases h
    have key : ∀ {K : Nat → Prop} {v : AV} {x : PV}, Frz K (AObj.dead :: rest) v x → Frz (fun a => a ≠ 0) (AObj.cells cs :: rest) v x := by
     intro K v x hf;refine Qvw (fun a o _ ho hc => ?_) hf
     cases a with
     | zero => simp at ho; exact absurd ho.symm hc
     | succ a => exact ⟨by simp, by simpa using ho⟩
    have q := Q4g _ _ h1;exact ⟨r, ps, rfl, cs, rest, rfl, ⟨q.1, fun i v x hv hx => key (q.2 i v x hv hx)⟩, key (Qau Z1n _ _ h2)⟩
   cases h
  cases h
 ·cases h

theorem Qc2 (hkn : KnowOk2 P Gl kn) {E : Env (Option PV)} {f : Nat} {cells args : List PV} {x : PV} {cs' : List PV} (hE : Hom E (EP P Gl) (Z0k x cs')) (h : Qnj kn E f cells args = some (Z0k x cs')) : Z26 P Gl f cells args x cs' := by
 unfold Qnj at h
 cases hk : kn.meth f cells args with
 | some y =>
  rw [hk] at h; cases h;obtain ⟨y, cs'', e, q⟩ := hkn.meth f cells args _ hk;simp only [Z0k, PV.tuple.injEq, Bb, PV.agg.injEq, and_true] at e;obtain ⟨rfl, rfl⟩ := e;exact q
 | none =>
  simp only [hk] at h
  cases ht : kn.tab f with
  | none => simp only [ht] at h; cases h
  | some cf =>
   simp only [ht, U9] at h;refine Qq7 (hkn.tab f cf ht) (Q57 hE (fun v H hv => ?_) h);obtain ⟨y', cs'', e, q⟩ := Qlr hv;simp only [Z0k, PV.tuple.injEq, Bb, PV.agg.injEq, and_true] at e;obtain ⟨rfl, rfl⟩ := e;exact q

theorem Qru (hkn : KnowOk2 P Gl kn) {β : Type} {EV : Env (Option PV)} (hEV : ∀ r, Hom EV (EP P Gl) r) {r : β} {inl : Nat → List AV → List AObj → (AV → List AObj → Option β) → Option β} {f : Nat} {args : List AV} {H : List AObj}
  {kO : AV → List AObj → Option β} {kP : AV → List AObj → Prop} (hk : ∀ v H', kO v H' = some r → kP v H') (hinl : inl f args H kO = some r → Vf P Gl f args H kP) (he : Z1f kn EV inl f args H kO = some r) : Vf P Gl f args H kP := by
 unfold Z1f at he;split at he
 ·rename_i pa h1;split at he
  ·rename_i x h2;exact Uh (Q1a hkn (hEV x) h2) (Q1p args pa h1) (hk _ _ he)
  exact hinl he
 split at he
 ·rename_i pa h1;split at he
  ·rename_i x h2;split at he
   ·rename_i h3;have q := Q4g args pa h1;exact Qe6 (Q1a hkn (hEV x) h2) ⟨q.1, fun i v x hv hx => Qfu (fun a o _ ho => ⟨trivial, ho⟩) (q.2 i v x hv hx)⟩ h3 (hk _ _ he)
   exact hinl he
  exact hinl he
 ·split at he
  ·rename_i a rest _ _;split at he
   ·rename_i pr h1;split at he
    ·rename_i cs ha;split at he
     ·rename_i cells hc;split at he
      ·split at he
       ·rename_i x cells' h2;exact Qkr (Qc2 hkn (hEV _) h2) (by rw [ha, Qmi _ _ hc]) (Q1p rest pr h1) (hk _ _ he)
       exact hinl he
      exact hinl he
     exact hinl he
    exact hinl he
   exact hinl he
  ·exact hinl he

theorem Qra (hkn : KnowOk2 P Gl kn) {β : Type} {EA : Env (Option AV)} (hEA : ∀ r, Hom EA (EP P Gl) r) {r : β} {f : Nat} {args : List AV} {H : List AObj} {R : List Nat}
  {kO : AV → List AObj → List Nat → List Nat → Option β} {kP : AV → List AObj → List Nat → List Nat → Prop} (hk : ∀ v H' R A, kO v H' R A = some r → kP v H' R A) {z : Unit → Option β} (hz : z () = some r → Jm P Gl f args H kP) (he : Qum none z kn EA f args H R kO = some r) : Jm P Gl f args H kP := by
 unfold Qum at he;split at he
 ·rename_i v hv;unfold Z2q at hv;split at hv
  ·rename_i h1;split at hv
   ·rename_i h2;split at hv
    ·rename_i cf hcf;split at he
     ·rename_i hr
      have hc : Vf P Gl f args (Qjb R H) (fun v0 H' => v0 = v ∧ ∃ rest, H' = Qjb R H ++ rest) := Gn (hkn.tab f cf hcf) (Q57 (hEA v) (fun v0 H' h => by
       split at h
       ·rename_i hp; cases h; exact ⟨rfl, Qox _ _ hp⟩
       cases h) hv)
      refine Qmf R h1 hr (fun a ha o ho => ?_) hc (hk _ _ _ _ he);have := Lq.1 h2 a ha;rw [ho] at this; exact this
     exact hz he
    cases hv
   cases hv
  cases hv
 exact hz he
theorem Q2b (hkn : KnowOk2 P Gl kn) {β : Type} {EA : Env (Option AV)} (hEA : ∀ r, Hom EA (EP P Gl) r) {r : β} {f : Nat} {args : List AV} {H : List AObj}
  {kO : AV → List AObj → List Nat → List Nat → Option β} {kP : AV → List AObj → List Nat → List Nat → Prop} (hk : ∀ v H' R A, kO v H' R A = some r → kP v H' R A) {z : Unit → Option β} (hz : z () = some r → Jm P Gl f args H kP) (he : Qa0 none z kn EA f args H kO = some r) : Jm P Gl f args H kP := by
 unfold Qa0 at he;split at he
 ·rename_i v hv;unfold Z2e at hv;split at hv
  ·rename_i h1;split at hv
   ·rename_i cf hcf;split at he
    ·rename_i hr;have hc : Vf P Gl f args (List.replicate H.length .dead) (fun v0 _ => v0 = v) := Gn (hkn.tab f cf hcf) (Q57 (hEA v) (fun v0 H' h => by cases h; rfl) hv);exact .inl ⟨[], [], v, fun s h => (by cases h), fun H2 _ => Q8a (Qpx h1 hr hc H2) (fun v' H' ⟨e1, e2⟩ => ⟨e1, e2⟩), hk _ _ _ _ he⟩
    exact hz he
   cases hv
  cases hv
 exact Qra hkn hEA hk hz he
theorem Qky (hkn : KnowOk2 P Gl kn) {β : Type} {EV : Env (Option PV)} (hEV : ∀ r, Hom EV (EP P Gl) r) {EA : Env (Option AV)} (hEA : ∀ r, Hom EA (EP P Gl) r) {r : β} {f : Nat} {args : List AV} {H : List AObj}
  {kO : AV → List AObj → List Nat → List Nat → Option β} {kP : AV → List AObj → List Nat → List Nat → Prop} (hk : ∀ v H' R A, kO v H' R A = some r → kP v H' R A) (he : Z0j none kn EV EA f args H kO = some r) : Jm P Gl f args H kP := by
 unfold Z0j at he;split at he
 ·rename_i pa h1;split at he
  ·rename_i x h2;have hp := Q1a hkn (hEV x) h2;exact .inl ⟨[], [], .p x, fun s h => (by cases h), fun H2 _ => Uh hp (Q1p args pa h1) ⟨rfl, rfl⟩, hk _ _ _ _ he⟩
  cases he
 split at he
 ·rename_i pa h1;split at he
  ·rename_i x h2;split at he
   ·rename_i h3;have q := Q4g args pa h1;have hp := Q1a hkn (hEV x) h2;exact .inl ⟨Q8x H args, [], .p x, fun s h => (by cases h), fun H2 hH2 => Qe6 hp ⟨q.1, fun i v x hv hx => Qfu (fun a o hk ho => ⟨trivial, hH2 a hk o ho⟩) (q.2 i v x hv hx)⟩ h3 ⟨rfl, rfl⟩, hk _ _ _ _ he⟩
   refine Q2b hkn hEA hk (fun hz => ?_) he;split at hz
   ·rename_i hR;have q := Q4g args pa h1;have hp := Q1a hkn (hEV x) h2;exact Qhh _ hp q (fun a ha => by simpa using Lq.1 hR a ha) (hk _ _ _ _ hz)
   cases hz
  exact Q2b hkn hEA hk (fun h => by cases h) he
 ·split at he
  ·rename_i a rest _ _;split at he
   ·rename_i pr h1;split at he
    ·rename_i cs ha;split at he
     ·rename_i cells hc;split at he
      ·rename_i x cells' h2;have hm := Qc2 hkn (hEV _) h2;refine .inl ⟨[a], [(a, .cells (cells'.map .p))], .p x, fun s hs => ?_, fun H2 hH2 => ?_, hk _ _ _ _ he⟩
       ·simp at hs; subst hs; exact (Ld.1 ha).1
       refine Qkr hm ?_ (Q1p rest pr h1) ⟨rfl, rfl⟩;rw [hH2 a (by simp) _ ha, Qmi _ _ hc]
      exact Q2b hkn hEA hk (fun h => by cases h) he
     exact Q2b hkn hEA hk (fun h => by cases h) he
    exact Q2b hkn hEA hk (fun h => by cases h) he
   exact Q2b hkn hEA hk (fun h => by cases h) he
  ·exact Q2b hkn hEA hk (fun h => by cases h) he

theorem Qes : ∀ (cs : List COper) (j : Nat), cs = (Q7j j cs).1 ++ (Q7j j cs).2 ∧ Qpt (j + (Q7j j cs).1.length) (Q7j j cs).2 = true
 | [], j => ⟨rfl, rfl⟩
 | c :: r, j => by
  simp only [Q7j];split
  ·rename_i ht; exact ⟨rfl, ht⟩
  obtain ⟨h1, h2⟩ := Qes r (j + 1);refine ⟨by simp only [Bi]; rw [← h1], ?_⟩;rw [Lz, show j + ((Q7j (j + 1) r).1.length + 1) = j + 1 + (Q7j (j + 1) r).1.length by omega]; exact h2
theorem Qop (hkn : KnowOk2 P Gl kn) (N : Nat) : ∀ (d : Nat) (β : Type) (r : β), Hom (Qi3 kn Gl N d β) (EP P Gl) r
 | 0, β, r => ⟨rfl, rfl, fun f a H kO kP hk he => (by simp only [Qi3] at he; cases he), fun b tm H kO kP hk he => (by simp only [Qi3] at he; cases he), fun a b tm H kO kP hk he => (by simp only [Qi3] at he; cases he), fun b tm H kO kP hk he => (by simp only [Qi3] at he; cases he)⟩
 | d + 1, β, r => by
  have ih := Qop hkn N d;refine ⟨rfl, rfl, fun f a H kO kP hk he => ?_, fun b tm H kO kP hk he => ?_, fun a b tm H kO kP hk he => ?_, fun ops tm H kO kP hk he => ?_⟩
  ·simp only [Qi3] at he;refine Qru hkn (ih PV) hk (fun he => ?_) he
   cases ht : kn.tab f with
   | none => simp only [ht] at he; cases he
   | some cf =>
    simp only [ht] at he;exact Gn (hkn.tab f cf ht) (Q57 (ih β r) hk he)
  ·simp only [Qi3] at he;exact Qep N (Qka (ih β r) hk N tm H he)
  ·simp only [Qi3] at he;refine Qxn (Qap (ih β r) a tm H _ _ (fun e v H' hv => ?_) he)
   cases e with
   | normal => exact Qap (ih β r) b v H' kO kP hk hv
   | exit i => exact hk _ _ _ hv
   | ret => exact hk _ _ _ hv
  ·simp only [Qi3] at he;obtain ⟨h1, h2⟩ := Qes ops 0;rw [Mm] at h2;generalize (Q7j 0 ops).1 = pre at he h1 h2;generalize (Q7j 0 ops).2 = suf at he h1 h2;subst h1
   cases suf with
   | nil =>
    rw [Nz];exact Qb (Q8f (dP := Jm P Gl) (ih β r) (fun f a H kO kP hk he => Qky hkn (ih PV) (ih AV) hk he) hk pre tm H 0 [] he)
   | cons c0 suf => exact Qtw h2 (Q8f (dP := Jm P Gl) (ih β r) (fun f a H kO kP hk he => Qky hkn (ih PV) (ih AV) hk he) (fun tm' H' hv => Qac (ih β r) hk _ tm' H' hv) pre tm H 0 [] he)

theorem Qm (hkn : KnowOk2 P Gl kn) {N d : Nat} {f : Nat} {args : List PV} {r : PV} (h : Qem kn (Qi3 kn Gl N d PV) f args = some r) : Q2j P Gl f args r :=
 Q1a hkn (Qop hkn N d PV r) h
end
end
end Go.Av
