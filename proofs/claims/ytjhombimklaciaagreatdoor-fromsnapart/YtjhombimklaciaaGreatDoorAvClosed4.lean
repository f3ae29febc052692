/- Part of the proof of FromsnApart: for every input the law returns true; no condition. -/
import Derived.Test.YtjhombimklaciaaGreatDoorAvClosed2
import Derived.Test.YtjhombimklaciaaGreatDoorAvDrawt
import Derived.Test.YtjhombimklaciaaGreatDoorAvMeth
import Derived.Test.YtjhombimklaciaaGreatDoorAvLook
import Derived.Test.YtjhombimklaciaaGreatDoorAvFrame
import Derived.Test.YtjhombimklaciaaGreatDoorAvEq
namespace Go.Av
noncomputable section

structure Know2 where
 tab : Nat → Option CFunc
 known : Nat → List PV → Option PV
 meth : Nat → List PV → List PV → Option PV

def Qpy (r : PV) (cells : List PV) : PV := .tuple [r, .agg cells]

def Qfd : List AObj → AV → Option PV
 | .cells cs :: rest, v => match Qcg (.dead :: rest) cs with
  | some ps => match Qiy Qqf (.dead :: rest) v with
   | some r => some (Qpy r ps)
   | none => none
  | none => none
 | _, _ => none

def Q8l (kn : Know2) (E : Env (Option PV)) (f : Nat) (args : List PV) : Option PV := match kn.known f args with
 | some r => some r
 | none => match kn.tab f with
  | some cf => Q54 .p args fun args => Q0o E cf args [] (fun v H => Qiy Qqf H v)
  | none => none
def Qhc (kn : Know2) (E : Env (Option PV)) (f : Nat) (cells args : List PV) : Option PV := match kn.meth f cells args with
 | some r => some r
 | none => match kn.tab f with
  | some cf => Q54 .p args fun args => Q54 .p cells fun cells => Q0o E cf (.ptr 0 0 :: args) [.cells cells] (fun v H => Qfd H v)
  | none => none

def Qrg : List AV → Option (List PV)
 | [] => some []
 | .p x :: r => match Qrg r with
  | some ps => some (x :: ps)
  | none => none
 | _ :: _ => none
theorem Qez : ∀ (cs : List AV) (ps : List PV), Qrg cs = some ps → cs = ps.map .p
 | [], ps, h => by simp only [Qrg] at h; cases h; rfl
 | c :: cs, ps, h => by
  cases c <;> simp only [Qrg] at h <;> try (cases h; done)
  split at h
  ·rename_i x ps' h1;cases h;rw [Qez cs ps' h1]; rfl
  cases h
def Qbr : List PV → Bool
 | [] => true
 | .int _ _ :: r => Qbr r
 | .bool _ :: r => Qbr r
 | .str _ :: r => Qbr r
 | _ :: _ => false
def Qpx {α : Type} (kn : Know2) (EV : Env (Option PV)) (inl : Nat → List AV → List AObj → (AV → List AObj → α) → α) (f : Nat) (args : List AV) (H : List AObj) (k : AV → List AObj → α) : α :=
 match AV.toPVs args with
 | some pa => match Q8l kn EV f pa with
  | some r => k (.p r) H
  | none => inl f args H k
 | none => match Qcg H args with
  | some pa => match Q8l kn EV f pa with
   | some r => match Uo r with
    | true => k (.p r) H
    | false => inl f args H k
   | none => inl f args H k
  | none => match args with
  | .ptr a 0 :: rest => match AV.toPVs rest with
   | some pr => match H[a]? with
    | some (.cells cs) => match Qrg cs with
     | some cells => match Qbr cells with
      | true => match Qhc kn EV f cells pr with
       | some (.tuple [r, .agg cells']) => k (.p r) (H.set a (.cells (cells'.map .p)))
       | _ => inl f args H k
      | false => inl f args H k
     | none => inl f args H k
    | _ => inl f args H k
   | none => inl f args H k
  | _ => inl f args H k
def Qt1 (kn : Know2) (EA : Env (Option AV)) (f : Nat) (args : List AV) (n : Nat) : Option AV := match refsLt.refsLts n args with
 | true => match kn.tab f with
  | some cf => Q0o EA cf args (List.replicate n .dead) (fun v _ => some v)
  | none => none
 | false => none
def Qrj (kn : Know2) (EA : Env (Option AV)) (f : Nat) (args : List AV) (H : List AObj) (R : List Nat) : Option AV := match refsLt.refsLts H.length args with
 | true => match R.all (fun a => match H[a]? with | some o => Vq H.length o | none => true) with
  | true => match kn.tab f with
   | some cf => Q0o EA cf args (Qcs R H) (fun v H' => match Qm8 (Qcs R H) H' with
    | true => some v
    | false => none)
   | none => none
  | false => none
 | false => none
def Qr5 (R : List Nat) : List (Nat × AObj) := R.map fun a => (a, .dead)
def Qko {α : Type} (fail : α) (z : Unit → α) (kn : Know2) (EA : Env (Option AV)) (f : Nat) (args : List AV) (H : List AObj) (R : List Nat) (k : AV → List AObj → List Nat → List Nat → α) : α := match Qrj kn EA f args H R with
 | some v => match refsLt H.length v with
  | true => k v H R []
  | false => z ()
 | none => z ()
def Q69 {α : Type} (fail : α) (z : Unit → α) (kn : Know2) (EA : Env (Option AV)) (f : Nat) (args : List AV) (H : List AObj) (k : AV → List AObj → List Nat → List Nat → α) : α := match Qt1 kn EA f args H.length with
 | some v => match refsLt H.length v with
  | true => k v H [] []
  | false => z ()
 | none => Qko fail z kn EA f args H (args.flatMap (Qcp 12 H)) k
def Q1t : Nat → List COper → List COper × List COper
 | _, [] => ([], [])
 | j, c :: r => match Q8r j (c :: r) with
  | true => ([], c :: r)
  | false => match Q1t (j + 1) r with
   | (a, b) => (c :: a, b)
section
variable {P : Program} {Gl : Nat → Option (List PV)} {kn : Know2}

structure KnowOk2 (P : Program) (Gl : Nat → Option (List PV)) (kn : Know2) : Prop where
 tab : ∀ f cf, kn.tab f = some cf → Gf P f cf = true
 known : ∀ f args r, kn.known f args = some r → Q6d P Gl f args r
 meth : ∀ f cells args r, kn.meth f cells args = some r → ∃ x cs', r = Qpy x cs' ∧ Qji P Gl f cells args x cs'

theorem Ja (hkn : KnowOk2 P Gl kn) {E : Env (Option PV)} {f : Nat} {args : List PV} {r : PV} (hE : Hom E (EP P Gl) r) (h : Q8l kn E f args = some r) : Q6d P Gl f args r := by
 unfold Q8l at h
 cases hk : kn.known f args with
 | some x => rw [hk] at h; cases h; exact hkn.known f args _ hk
 | none =>
  simp only [hk] at h
  cases ht : kn.tab f with
  | none => simp only [ht] at h; cases h
  | some cf =>
   simp only [ht, Xh] at h;exact Q6 (hkn.tab f cf ht) (Q0h hE (fun v H hv => Q94 (fun _ _ _ ho => ⟨trivial, ho⟩) (Q59 Qqf v r hv)) h)

theorem Qng {H1 H2 : List AObj} {K1 K2 : Nat → Prop} (h : ∀ a o, K1 a → H1[a]? = some o → o ≠ .dead → K2 a ∧ H2[a]? = some o) {v : AV} {x : PV} (hf : Frz K1 H1 v x) : Frz K2 H2 v x := by
 induction hf with
 | p x => exact .p x
 | nil esz => exact .nil esz
 | zero esz => exact .zero esz
 | slice esz a off len cs rows hk ho hl hr hn hv ih =>
  obtain ⟨k1, k2⟩ := h a _ hk ho (by simp);exact .slice esz a off len cs rows k1 k2 hl hr hn ih
 | agg cs ps hn _ ih => exact .agg cs ps hn ih
 | tuple cs ps hn _ ih => exact .tuple cs ps hn ih
 | func fn a b a' b' n1 _ n2 _ ih1 ih2 => exact .func fn a b a' b' n1 ih1 n2 ih2
 | iface t v x _ ih => exact .iface t v x ih
 | map r es ps hk ho hn hkk _ ih =>
  obtain ⟨k1, k2⟩ := h r _ hk ho (by simp);exact .map r es ps k1 k2 hn hkk ih

theorem Qd1 {H : List AObj} {v : AV} {x : PV} (h : Qfd H v = some x) : ∃ r cs', x = Qpy r cs' ∧ ∃ cs rest, H = .cells cs :: rest ∧ FrzL (fun a => a ≠ 0) H cs cs' ∧ Frz (fun a => a ≠ 0) H v r := by
 unfold Qfd at h;split at h
 ·rename_i cs rest;split at h
  ·rename_i ps h1;split at h
   ·rename_i r h2;cases h
    have key : ∀ {K : Nat → Prop} {v : AV} {x : PV}, Frz K (AObj.dead :: rest) v x → Frz (fun a => a ≠ 0) (AObj.cells cs :: rest) v x := by
     intro K v x hf;refine Qng (fun a o _ ho hc => ?_) hf
     cases a with
     | zero => simp at ho; exact absurd ho.symm hc
     | succ a => exact ⟨by simp, by simpa using ho⟩
    have q := Q18 _ _ h1;exact ⟨r, ps, rfl, cs, rest, rfl, ⟨q.1, fun i v x hv hx => key (q.2 i v x hv hx)⟩, key (Q59 Qqf _ _ h2)⟩
   cases h
  cases h
 ·cases h

theorem Q7i (hkn : KnowOk2 P Gl kn) {E : Env (Option PV)} {f : Nat} {cells args : List PV} {x : PV} {cs' : List PV} (hE : Hom E (EP P Gl) (Qpy x cs')) (h : Qhc kn E f cells args = some (Qpy x cs')) : Qji P Gl f cells args x cs' := by
 unfold Qhc at h
 cases hk : kn.meth f cells args with
 | some y =>
  rw [hk] at h; cases h;obtain ⟨y, cs'', e, q⟩ := hkn.meth f cells args _ hk;simp only [Qpy, PV.tuple.injEq, Ce, PV.agg.injEq, and_true] at e;obtain ⟨rfl, rfl⟩ := e;exact q
 | none =>
  simp only [hk] at h
  cases ht : kn.tab f with
  | none => simp only [ht] at h; cases h
  | some cf =>
   simp only [ht, Xh] at h;refine Q1l (hkn.tab f cf ht) (Q0h hE (fun v H hv => ?_) h);obtain ⟨y', cs'', e, q⟩ := Qd1 hv;simp only [Qpy, PV.tuple.injEq, Ce, PV.agg.injEq, and_true] at e;obtain ⟨rfl, rfl⟩ := e;exact q

theorem Qls (hkn : KnowOk2 P Gl kn) {β : Type} {EV : Env (Option PV)} (hEV : ∀ r, Hom EV (EP P Gl) r) {r : β} {inl : Nat → List AV → List AObj → (AV → List AObj → Option β) → Option β} {f : Nat} {args : List AV} {H : List AObj}
  {kO : AV → List AObj → Option β} {kP : AV → List AObj → Prop} (hk : ∀ v H', kO v H' = some r → kP v H') (hinl : inl f args H kO = some r → Qm P Gl f args H kP) (he : Qpx kn EV inl f args H kO = some r) : Qm P Gl f args H kP := by
 unfold Qpx at he;split at he
 ·rename_i pa h1;split at he
  ·rename_i x h2;exact W1 (Ja hkn (hEV x) h2) (Jr args pa h1) (hk _ _ he)
  exact hinl he
 split at he
 ·rename_i pa h1;split at he
  ·rename_i x h2;split at he
   ·rename_i h3;have q := Q18 args pa h1;exact Qdu (Ja hkn (hEV x) h2) ⟨q.1, fun i v x hv hx => Q94 (fun a o _ ho => ⟨trivial, ho⟩) (q.2 i v x hv hx)⟩ h3 (hk _ _ he)
   exact hinl he
  exact hinl he
 ·split at he
  ·rename_i a rest _ _;split at he
   ·rename_i pr h1;split at he
    ·rename_i cs ha;split at he
     ·rename_i cells hc;split at he
      ·split at he
       ·rename_i x cells' h2;exact Q5d (Q7i hkn (hEV _) h2) (by rw [ha, Qez _ _ hc]) (Jr rest pr h1) (hk _ _ he)
       exact hinl he
      exact hinl he
     exact hinl he
    exact hinl he
   exact hinl he
  ·exact hinl he

theorem Qj8 (hkn : KnowOk2 P Gl kn) {β : Type} {EA : Env (Option AV)} (hEA : ∀ r, Hom EA (EP P Gl) r) {r : β} {f : Nat} {args : List AV} {H : List AObj} {R : List Nat}
  {kO : AV → List AObj → List Nat → List Nat → Option β} {kP : AV → List AObj → List Nat → List Nat → Prop} (hk : ∀ v H' R A, kO v H' R A = some r → kP v H' R A) {z : Unit → Option β} (hz : z () = some r → Xt P Gl f args H kP) (he : Qko none z kn EA f args H R kO = some r) : Xt P Gl f args H kP := by
 unfold Qko at he;split at he
 ·rename_i v hv;unfold Qrj at hv;split at hv
  ·rename_i h1;split at hv
   ·rename_i h2;split at hv
    ·rename_i cf hcf;split at he
     ·rename_i hr
      have hc : Qm P Gl f args (Qcs R H) (fun v0 H' => v0 = v ∧ ∃ rest, H' = Qcs R H ++ rest) := Q8 (hkn.tab f cf hcf) (Q0h (hEA v) (fun v0 H' h => by
       split at h
       ·rename_i hp; cases h; exact ⟨rfl, Qgf _ _ hp⟩
       cases h) hv)
      refine Q0w R h1 hr (fun a ha o ho => ?_) hc (hk _ _ _ _ he);have := Lp.1 h2 a ha;rw [ho] at this; exact this
     exact hz he
    cases hv
   cases hv
  cases hv
 exact hz he
theorem Ge (hkn : KnowOk2 P Gl kn) {β : Type} {EA : Env (Option AV)} (hEA : ∀ r, Hom EA (EP P Gl) r) {r : β} {f : Nat} {args : List AV} {H : List AObj}
  {kO : AV → List AObj → List Nat → List Nat → Option β} {kP : AV → List AObj → List Nat → List Nat → Prop} (hk : ∀ v H' R A, kO v H' R A = some r → kP v H' R A) {z : Unit → Option β} (hz : z () = some r → Xt P Gl f args H kP) (he : Q69 none z kn EA f args H kO = some r) : Xt P Gl f args H kP := by
 unfold Q69 at he;split at he
 ·rename_i v hv;unfold Qt1 at hv;split at hv
  ·rename_i h1;split at hv
   ·rename_i cf hcf;split at he
    ·rename_i hr;have hc : Qm P Gl f args (List.replicate H.length .dead) (fun v0 _ => v0 = v) := Q8 (hkn.tab f cf hcf) (Q0h (hEA v) (fun v0 H' h => by cases h; rfl) hv);exact .inl ⟨[], [], v, fun s h => (by cases h), fun H2 _ => Vu (Qaf h1 hr hc H2) (fun v' H' ⟨e1, e2⟩ => ⟨e1, e2⟩), hk _ _ _ _ he⟩
    exact hz he
   cases hv
  cases hv
 exact Qj8 hkn hEA hk hz he
theorem Q9c : ∀ (cs : List COper) (j : Nat), cs = (Q1t j cs).1 ++ (Q1t j cs).2 ∧ Q8r (j + (Q1t j cs).1.length) (Q1t j cs).2 = true
 | [], j => ⟨rfl, rfl⟩
 | c :: r, j => by
  simp only [Q1t];split
  ·rename_i ht; exact ⟨rfl, ht⟩
  obtain ⟨h1, h2⟩ := Q9c r (j + 1);refine ⟨by simp only [Nw]; rw [← h1], ?_⟩;rw [Mi, show j + ((Q1t (j + 1) r).1.length + 1) = j + 1 + (Q1t (j + 1) r).1.length by omega]; exact h2
end
end
end Go.Av
