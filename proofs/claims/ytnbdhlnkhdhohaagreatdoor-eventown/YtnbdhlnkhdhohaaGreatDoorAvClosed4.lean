/- Part of the proof of EventOwn: for every input the law returns true; no condition. -/
import Derived.Test.YtnbdhlnkhdhohaaGreatDoorAvClosed2
import Derived.Test.YtnbdhlnkhdhohaaGreatDoorAvDrawt
import Derived.Test.YtnbdhlnkhdhohaaGreatDoorAvMeth
import Derived.Test.YtnbdhlnkhdhohaaGreatDoorAvLook
import Derived.Test.YtnbdhlnkhdhohaaGreatDoorAvFrame
import Derived.Test.YtnbdhlnkhdhohaaGreatDoorAvEq
namespace Go.Av
noncomputable section

structure Know2 where
 tab : Nat → Option CFunc
 known : Nat → List PV → Option PV
 meth : Nat → List PV → List PV → Option PV

def Qzq (r : PV) (cells : List PV) : PV := .tuple [r, .agg cells]

def Qno : List AObj → AV → Option PV
 | .cells cs :: rest, v => match Qja (.dead :: rest) cs with
  | some ps => match Qri Z0w (.dead :: rest) v with
   | some r => some (Qzq r ps)
   | none => none
  | none => none
 | _, _ => none

def Qgh (kn : Know2) (E : Env (Option PV)) (f : Nat) (args : List PV) : Option PV := match kn.known f args with
 | some r => some r
 | none => match kn.tab f with
  | some cf => Qas .p args fun args => Q64 E cf args [] (fun v H => Qri Z0w H v)
  | none => none
def Qod (kn : Know2) (E : Env (Option PV)) (f : Nat) (cells args : List PV) : Option PV := match kn.meth f cells args with
 | some r => some r
 | none => match kn.tab f with
  | some cf => Qas .p args fun args => Qas .p cells fun cells => Q64 E cf (.ptr 0 0 :: args) [.cells cells] (fun v H => Qno H v)
  | none => none

def Z1a : List AV → Option (List PV)
 | [] => some []
 | .p x :: r => match Z1a r with
  | some ps => some (x :: ps)
  | none => none
 | _ :: _ => none
theorem Qnd : ∀ (cs : List AV) (ps : List PV), Z1a cs = some ps → cs = ps.map .p
 | [], ps, h => by simp only [Z1a] at h; cases h; rfl
 | c :: cs, ps, h => by
  cases c <;> simp only [Z1a] at h <;> try (cases h; done)
  split at h
  ·rename_i x ps' h1;cases h;rw [Qnd cs ps' h1]; rfl
  cases h
def Qjk : List PV → Bool
 | [] => true
 | .int _ _ :: r => Qjk r
 | .bool _ :: r => Qjk r
 | .str _ :: r => Qjk r
 | _ :: _ => false
def Z0j {α : Type} (kn : Know2) (EV : Env (Option PV)) (inl : Nat → List AV → List AObj → (AV → List AObj → α) → α) (f : Nat) (args : List AV) (H : List AObj) (k : AV → List AObj → α) : α :=
 match AV.toPVs args with
 | some pa => match Qgh kn EV f pa with
  | some r => k (.p r) H
  | none => inl f args H k
 | none => match Qja H args with
  | some pa => match Qgh kn EV f pa with
   | some r => match Q5w r with
    | true => k (.p r) H
    | false => inl f args H k
   | none => inl f args H k
  | none => match args with
  | .ptr a 0 :: rest => match AV.toPVs rest with
   | some pr => match H[a]? with
    | some (.cells cs) => match Z1a cs with
     | some cells => match Qjk cells with
      | true => match Qod kn EV f cells pr with
       | some (.tuple [r, .agg cells']) => k (.p r) (H.set a (.cells (cells'.map .p)))
       | _ => inl f args H k
      | false => inl f args H k
     | none => inl f args H k
    | _ => inl f args H k
   | none => inl f args H k
  | _ => inl f args H k
def Z2u (kn : Know2) (EA : Env (Option AV)) (f : Nat) (args : List AV) (n : Nat) : Option AV := match refsLt.refsLts n args with
 | true => match kn.tab f with
  | some cf => Q64 EA cf args (List.replicate n .dead) (fun v _ => some v)
  | none => none
 | false => none
def Z1f (kn : Know2) (EA : Env (Option AV)) (f : Nat) (args : List AV) (H : List AObj) (R : List Nat) : Option AV := match refsLt.refsLts H.length args with
 | true => match R.all (fun a => match H[a]? with | some o => Q18 H.length o | none => true) with
  | true => match kn.tab f with
   | some cf => Q64 EA cf args (Qjx R H) (fun v H' => match Qtk (Qjx R H) H' with
    | true => some v
    | false => none)
   | none => none
  | false => none
 | false => none
def Qz9 (R : List Nat) : List (Nat × AObj) := R.map fun a => (a, .dead)
def Qtj {α : Type} (fail : α) (z : Unit → α) (kn : Know2) (EA : Env (Option AV)) (f : Nat) (args : List AV) (H : List AObj) (R : List Nat) (k : AV → List AObj → List Nat → List Nat → α) : α := match Z1f kn EA f args H R with
 | some v => match refsLt H.length v with
  | true => k v H R []
  | false => z ()
 | none => z ()
def Qbv {α : Type} (fail : α) (z : Unit → α) (kn : Know2) (EA : Env (Option AV)) (f : Nat) (args : List AV) (H : List AObj) (k : AV → List AObj → List Nat → List Nat → α) : α := match Z2u kn EA f args H.length with
 | some v => match refsLt H.length v with
  | true => k v H [] []
  | false => z ()
 | none => Qtj fail z kn EA f args H (args.flatMap (Qkz 12 H)) k
def Qzg {α : Type} (fail : α) (kn : Know2) (EV : Env (Option PV)) (EA : Env (Option AV)) (f : Nat) (args : List AV) (H : List AObj) (k : AV → List AObj → List Nat → List Nat → α) : α :=
 match AV.toPVs args with
 | some pa => match Qgh kn EV f pa with
  | some r => k (.p r) H [] []
  | none => fail
 | none => match Qja H args with
  | some pa => match Qgh kn EV f pa with
   | some r => match Q5w r with
    | true => k (.p r) H (Qai H args) []
    | false => Qbv fail (fun _ => match (Qai H args).all (fun a => Nat.blt a H.length) with
     | true => k (.p r) (Q3i (Qz9 (Qai H args)) H) (Qai H args) (Qai H args)
     | false => fail) kn EA f args H k
   | none => Qbv fail (fun _ => fail) kn EA f args H k
  | none => match args with
  | .ptr a 0 :: rest => match AV.toPVs rest with
   | some pr => match H[a]? with
    | some (.cells cs) => match Z1a cs with
     | some cells => match Qod kn EV f cells pr with
      | some (.tuple [r, .agg cells']) => k (.p r) (H.set a (.cells (cells'.map .p))) [a] [a]
      | _ => Qbv fail (fun _ => fail) kn EA f args H k
     | none => Qbv fail (fun _ => fail) kn EA f args H k
    | _ => Qbv fail (fun _ => fail) kn EA f args H k
   | none => Qbv fail (fun _ => fail) kn EA f args H k
  | _ => Qbv fail (fun _ => fail) kn EA f args H k

def Q8k : Nat → List COper → List COper × List COper
 | _, [] => ([], [])
 | j, c :: r => match Qrq j (c :: r) with
  | true => ([], c :: r)
  | false => match Q8k (j + 1) r with
   | (a, b) => (c :: a, b)
def Qj9 (kn : Know2) (Gl : Nat → Option (List PV)) (N : Nat) : Nat → (β : Type) → Env (Option β)
 | 0, _ => { fail := none, cmp := ⟨Q3, rfl⟩, scmp := ⟨Q4o, rfl⟩, glob := Gl, call := fun _ _ _ _ => none, loop := fun _ _ _ _ => none, join := fun _ _ _ _ _ => none, draw := fun _ _ _ _ => none }
 | d + 1, β => Env.mk none ⟨Q3, rfl⟩ ⟨Q4o, rfl⟩ Gl
   (Z0j kn (Qj9 kn Gl N d PV) fun f args H k => match kn.tab f with
     | some cf => Q64 (Qj9 kn Gl N d β) cf args H k
     | none => none)
   (fun b tm H k => Qnz (Qj9 kn Gl N d β) b N tm H k)
   (fun a b tm H k => ev (Qj9 kn Gl N d β) a tm H fun e tm H => match e with
    | .normal => ev (Qj9 kn Gl N d β) b tm H k
    | .exit i => k (.exit i) tm H
    | .ret => k .ret tm H)
   (fun ops tm H k => match Q8k 0 ops with
    | (pre, suf) => Q1n (Qj9 kn Gl N d β) (Qzg none kn (Qj9 kn Gl N d PV) (Qj9 kn Gl N d AV)) (fun tm H => Q5u (Qj9 kn Gl N d β) k suf tm H) pre tm H 0 [])
section
variable {P : Program} {Gl : Nat → Option (List PV)} {kn : Know2}

structure KnowOk2 (P : Program) (Gl : Nat → Option (List PV)) (kn : Know2) : Prop where
 tab : ∀ f cf, kn.tab f = some cf → Q1a P f cf = true
 known : ∀ f args r, kn.known f args = some r → Gt P Gl f args r
 meth : ∀ f cells args r, kn.meth f cells args = some r → ∃ x cs', r = Qzq x cs' ∧ Z2a P Gl f cells args x cs'

theorem Q2a (hkn : KnowOk2 P Gl kn) {E : Env (Option PV)} {f : Nat} {args : List PV} {r : PV} (hE : Hom E (EP P Gl) r) (h : Qgh kn E f args = some r) : Gt P Gl f args r := by
 unfold Qgh at h
 cases hk : kn.known f args with
 | some x => rw [hk] at h; cases h; exact hkn.known f args _ hk
 | none =>
  simp only [hk] at h
  cases ht : kn.tab f with
  | none => simp only [ht] at h; cases h
  | some cf =>
   simp only [ht, V7] at h;exact Q2 (hkn.tab f cf ht) (Q6z hE (fun v H hv => Qge (fun _ _ _ ho => ⟨trivial, ho⟩) (Qbb Z0w v r hv)) h)

theorem Qxs {H1 H2 : List AObj} {K1 K2 : Nat → Prop} (h : ∀ a o, K1 a → H1[a]? = some o → o ≠ .dead → K2 a ∧ H2[a]? = some o) {v : AV} {x : PV} (hf : Frz K1 H1 v x) : Frz K2 H2 v x := by
 induction hf with
 | p x => exact .p x
 | nil esz => exact .nil esz
 | zero esz => exact .zero esz
 | slice esz a off len cs rows hk ho hl hr hn hv ih =>
  obtain ⟨k1, k2⟩ := h a _ hk ho (by simp);exact .slice esz a off len cs rows k1 k2 hl hr hn ih
 | agg cs ps hn _ ih => exact .agg cs ps hn ih
 | tuple cs ps hn _ ih => exact .tuple cs ps hn ih
 | func fn a b a' b' n1 _ n2 _ ih1 ih2 => exact .func fn a b a' b' n1 ih1 n2 ih2
 | iface t v x _ ih => exact .iface t v x ih
 | map r es ps hk ho hn hkk _ ih =>
  obtain ⟨k1, k2⟩ := h r _ hk ho (by simp);exact .map r es ps k1 k2 hn hkk ih

theorem Qlp {H : List AObj} {v : AV} {x : PV} (h : Qno H v = some x) : ∃ r cs', x = Qzq r cs' ∧ ∃ cs rest, H = .cells cs :: rest ∧ FrzL (fun a => a ≠ 0) H cs cs' ∧ Frz (fun a => a ≠ 0) H v r := by
 unfold Qno at h;split at h
 ·rename_i cs rest;split at h
  ·rename_i ps h1;split at h
   ·rename_i r h2;cases h
    have key : ∀ {K : Nat → Prop} {v : AV} {x : PV}, Frz K (AObj.dead :: rest) v x → Frz (fun a => a ≠ 0) (AObj.cells cs :: rest) v x := by
     intro K v x hf;refine Qxs (fun a o _ ho hc => ?_) hf
     cases a with
     | zero => simp at ho; exact absurd ho.symm hc
     | succ a => exact ⟨by simp, by simpa using ho⟩
    have q := Q65 _ _ h1;exact ⟨r, ps, rfl, cs, rest, rfl, ⟨q.1, fun i v x hv hx => key (q.2 i v x hv hx)⟩, key (Qbb Z0w _ _ h2)⟩
   cases h
  cases h
 ·cases h

theorem Qds (hkn : KnowOk2 P Gl kn) {E : Env (Option PV)} {f : Nat} {cells args : List PV} {x : PV} {cs' : List PV} (hE : Hom E (EP P Gl) (Qzq x cs')) (h : Qod kn E f cells args = some (Qzq x cs')) : Z2a P Gl f cells args x cs' := by
 unfold Qod at h
 cases hk : kn.meth f cells args with
 | some y =>
  rw [hk] at h; cases h;obtain ⟨y, cs'', e, q⟩ := hkn.meth f cells args _ hk;simp only [Qzq, PV.tuple.injEq, Cc, PV.agg.injEq, and_true] at e;obtain ⟨rfl, rfl⟩ := e;exact q
 | none =>
  simp only [hk] at h
  cases ht : kn.tab f with
  | none => simp only [ht] at h; cases h
  | some cf =>
   simp only [ht, V7] at h;refine Qrv (hkn.tab f cf ht) (Q6z hE (fun v H hv => ?_) h);obtain ⟨y', cs'', e, q⟩ := Qlp hv;simp only [Qzq, PV.tuple.injEq, Cc, PV.agg.injEq, and_true] at e;obtain ⟨rfl, rfl⟩ := e;exact q

theorem Qsu (hkn : KnowOk2 P Gl kn) {β : Type} {EV : Env (Option PV)} (hEV : ∀ r, Hom EV (EP P Gl) r) {r : β} {inl : Nat → List AV → List AObj → (AV → List AObj → Option β) → Option β} {f : Nat} {args : List AV} {H : List AObj}
  {kO : AV → List AObj → Option β} {kP : AV → List AObj → Prop} (hk : ∀ v H', kO v H' = some r → kP v H') (hinl : inl f args H kO = some r → Xe P Gl f args H kP) (he : Z0j kn EV inl f args H kO = some r) : Xe P Gl f args H kP := by
 unfold Z0j at he;split at he
 ·rename_i pa h1;split at he
  ·rename_i x h2;exact Wz (Q2a hkn (hEV x) h2) (Q38 args pa h1) (hk _ _ he)
  exact hinl he
 split at he
 ·rename_i pa h1;split at he
  ·rename_i x h2;split at he
   ·rename_i h3;have q := Q65 args pa h1;exact Qb1 (Q2a hkn (hEV x) h2) ⟨q.1, fun i v x hv hx => Qge (fun a o _ ho => ⟨trivial, ho⟩) (q.2 i v x hv hx)⟩ h3 (hk _ _ he)
   exact hinl he
  exact hinl he
 ·split at he
  ·rename_i a rest _ _;split at he
   ·rename_i pr h1;split at he
    ·rename_i cs ha;split at he
     ·rename_i cells hc;split at he
      ·split at he
       ·rename_i x cells' h2;exact Qlr (Qds hkn (hEV _) h2) (by rw [ha, Qnd _ _ hc]) (Q38 rest pr h1) (hk _ _ he)
       exact hinl he
      exact hinl he
     exact hinl he
    exact hinl he
   exact hinl he
  ·exact hinl he

theorem Qrn (hkn : KnowOk2 P Gl kn) {β : Type} {EA : Env (Option AV)} (hEA : ∀ r, Hom EA (EP P Gl) r) {r : β} {f : Nat} {args : List AV} {H : List AObj} {R : List Nat}
  {kO : AV → List AObj → List Nat → List Nat → Option β} {kP : AV → List AObj → List Nat → List Nat → Prop} (hk : ∀ v H' R A, kO v H' R A = some r → kP v H' R A) {z : Unit → Option β} (hz : z () = some r → Vp P Gl f args H kP) (he : Qtj none z kn EA f args H R kO = some r) : Vp P Gl f args H kP := by
 unfold Qtj at he;split at he
 ·rename_i v hv;unfold Z1f at hv;split at hv
  ·rename_i h1;split at hv
   ·rename_i h2;split at hv
    ·rename_i cf hcf;split at he
     ·rename_i hr
      have hc : Xe P Gl f args (Qjx R H) (fun v0 H' => v0 = v ∧ ∃ rest, H' = Qjx R H ++ rest) := Qg (hkn.tab f cf hcf) (Q6z (hEA v) (fun v0 H' h => by
       split at h
       ·rename_i hp; cases h; exact ⟨rfl, Qoo _ _ hp⟩
       cases h) hv)
      refine Q57 R h1 hr (fun a ha o ho => ?_) hc (hk _ _ _ _ he);have := Lw.1 h2 a ha;rw [ho] at this; exact this
     exact hz he
    cases hv
   cases hv
  cases hv
 exact hz he
theorem Q3m (hkn : KnowOk2 P Gl kn) {β : Type} {EA : Env (Option AV)} (hEA : ∀ r, Hom EA (EP P Gl) r) {r : β} {f : Nat} {args : List AV} {H : List AObj}
  {kO : AV → List AObj → List Nat → List Nat → Option β} {kP : AV → List AObj → List Nat → List Nat → Prop} (hk : ∀ v H' R A, kO v H' R A = some r → kP v H' R A) {z : Unit → Option β} (hz : z () = some r → Vp P Gl f args H kP) (he : Qbv none z kn EA f args H kO = some r) : Vp P Gl f args H kP := by
 unfold Qbv at he;split at he
 ·rename_i v hv;unfold Z2u at hv;split at hv
  ·rename_i h1;split at hv
   ·rename_i cf hcf;split at he
    ·rename_i hr;have hc : Xe P Gl f args (List.replicate H.length .dead) (fun v0 _ => v0 = v) := Qg (hkn.tab f cf hcf) (Q6z (hEA v) (fun v0 H' h => by cases h; rfl) hv);exact .inl ⟨[], [], v, fun s h => (by cases h), fun H2 _ => Q9d (Qqb h1 hr hc H2) (fun v' H' ⟨e1, e2⟩ => ⟨e1, e2⟩), hk _ _ _ _ he⟩
    exact hz he
   cases hv
  cases hv
 exact Qrn hkn hEA hk hz he
theorem Ql0 (hkn : KnowOk2 P Gl kn) {β : Type} {EV : Env (Option PV)} (hEV : ∀ r, Hom EV (EP P Gl) r) {EA : Env (Option AV)} (hEA : ∀ r, Hom EA (EP P Gl) r) {r : β} {f : Nat} {args : List AV} {H : List AObj}
  {kO : AV → List AObj → List Nat → List Nat → Option β} {kP : AV → List AObj → List Nat → List Nat → Prop} (hk : ∀ v H' R A, kO v H' R A = some r → kP v H' R A) (he : Qzg none kn EV EA f args H kO = some r) : Vp P Gl f args H kP := by
 unfold Qzg at he;split at he
 ·rename_i pa h1;split at he
  ·rename_i x h2;have hp := Q2a hkn (hEV x) h2;exact .inl ⟨[], [], .p x, fun s h => (by cases h), fun H2 _ => Wz hp (Q38 args pa h1) ⟨rfl, rfl⟩, hk _ _ _ _ he⟩
  cases he
 split at he
 ·rename_i pa h1;split at he
  ·rename_i x h2;split at he
   ·rename_i h3;have q := Q65 args pa h1;have hp := Q2a hkn (hEV x) h2;exact .inl ⟨Qai H args, [], .p x, fun s h => (by cases h), fun H2 hH2 => Qb1 hp ⟨q.1, fun i v x hv hx => Qge (fun a o hk ho => ⟨trivial, hH2 a hk o ho⟩) (q.2 i v x hv hx)⟩ h3 ⟨rfl, rfl⟩, hk _ _ _ _ he⟩
   refine Q3m hkn hEA hk (fun hz => ?_) he;split at hz
   ·rename_i hR;have q := Q65 args pa h1;have hp := Q2a hkn (hEV x) h2;exact Qqr _ hp q (fun a ha => by simpa using Lw.1 hR a ha) (hk _ _ _ _ hz)
   cases hz
  exact Q3m hkn hEA hk (fun h => by cases h) he
 ·split at he
  ·rename_i a rest _ _;split at he
   ·rename_i pr h1;split at he
    ·rename_i cs ha;split at he
     ·rename_i cells hc;split at he
      ·rename_i x cells' h2;have hm := Qds hkn (hEV _) h2;refine .inl ⟨[a], [(a, .cells (cells'.map .p))], .p x, fun s hs => ?_, fun H2 hH2 => ?_, hk _ _ _ _ he⟩
       ·simp at hs; subst hs; exact (Lb.1 ha).1
       refine Qlr hm ?_ (Q38 rest pr h1) ⟨rfl, rfl⟩;rw [hH2 a (by simp) _ ha, Qnd _ _ hc]
      exact Q3m hkn hEA hk (fun h => by cases h) he
     exact Q3m hkn hEA hk (fun h => by cases h) he
    exact Q3m hkn hEA hk (fun h => by cases h) he
   exact Q3m hkn hEA hk (fun h => by cases h) he
  ·exact Q3m hkn hEA hk (fun h => by cases h) he

theorem Qfv : ∀ (cs : List COper) (j : Nat), cs = (Q8k j cs).1 ++ (Q8k j cs).2 ∧ Qrq (j + (Q8k j cs).1.length) (Q8k j cs).2 = true
 | [], j => ⟨rfl, rfl⟩
 | c :: r, j => by
  simp only [Q8k];split
  ·rename_i ht; exact ⟨rfl, ht⟩
  obtain ⟨h1, h2⟩ := Qfv r (j + 1);refine ⟨by simp only [Bl]; rw [← h1], ?_⟩;rw [Lp, show j + ((Q8k (j + 1) r).1.length + 1) = j + 1 + (Q8k (j + 1) r).1.length by omega]; exact h2
theorem Qq3 (hkn : KnowOk2 P Gl kn) (N : Nat) : ∀ (d : Nat) (β : Type) (r : β), Hom (Qj9 kn Gl N d β) (EP P Gl) r
 | 0, β, r => ⟨rfl, rfl, fun f a H kO kP hk he => (by simp only [Qj9] at he; cases he), fun b tm H kO kP hk he => (by simp only [Qj9] at he; cases he), fun a b tm H kO kP hk he => (by simp only [Qj9] at he; cases he), fun b tm H kO kP hk he => (by simp only [Qj9] at he; cases he)⟩
 | d + 1, β, r => by
  have ih := Qq3 hkn N d;refine ⟨rfl, rfl, fun f a H kO kP hk he => ?_, fun b tm H kO kP hk he => ?_, fun a b tm H kO kP hk he => ?_, fun ops tm H kO kP hk he => ?_⟩
  ·simp only [Qj9] at he;refine Qsu hkn (ih PV) hk (fun he => ?_) he
   cases ht : kn.tab f with
   | none => simp only [ht] at he; cases he
   | some cf =>
    simp only [ht] at he;exact Qg (hkn.tab f cf ht) (Q6z (ih β r) hk he)
  ·simp only [Qj9] at he;exact Z9 N (Qk0 (ih β r) hk N tm H he)
  ·simp only [Qj9] at he;refine Y4 (Qca (ih β r) a tm H _ _ (fun e v H' hv => ?_) he)
   cases e with
   | normal => exact Qca (ih β r) b v H' kO kP hk hv
   | exit i => exact hk _ _ _ hv
   | ret => exact hk _ _ _ hv
  ·simp only [Qj9] at he;obtain ⟨h1, h2⟩ := Qfv ops 0;rw [Mm] at h2;generalize (Q8k 0 ops).1 = pre at he h1 h2;generalize (Q8k 0 ops).2 = suf at he h1 h2;subst h1
   cases suf with
   | nil =>
    rw [Nf];exact Qc (Q9a (dP := Vp P Gl) (ih β r) (fun f a H kO kP hk he => Ql0 hkn (ih PV) (ih AV) hk he) hk pre tm H 0 [] he)
   | cons c0 suf => exact Qtg h2 (Q9a (dP := Vp P Gl) (ih β r) (fun f a H kO kP hk he => Ql0 hkn (ih PV) (ih AV) hk he) (fun tm' H' hv => Qce (ih β r) hk _ tm' H' hv) pre tm H 0 [] he)

theorem Qe (hkn : KnowOk2 P Gl kn) {N d : Nat} {f : Nat} {args : List PV} {r : PV} (h : Qgh kn (Qj9 kn Gl N d PV) f args = some r) : Gt P Gl f args r :=
 Q2a hkn (Qq3 hkn N d PV r) h
end
end
end Go.Av
