/- An abstract machine for the modelled code, and what its runs say of real calls. Part of a proof of a given statement: for every input the law returns true and the arguments read as before; no condition beyond the given row. -/
import Derived.Test.YtgalebkdefaonaaDoorAvClosed3
import Derived.Test.YtgalebkdefaonaaDoorAvDrawt
import Derived.Test.YtgalebkdefaonaaDoorAvMeth
import Derived.Test.YtgalebkdefaonaaDoorAvTrans
import Derived.Test.YtgalebkdefaonaaDoorAvFrame
import Derived.Test.YtgalebkdefaonaaDoorAvEq
namespace Go.Av
noncomputable section

structure Know2 where
 tab : Nat → Option CFunc
 known : Nat → List PV → Option PV
 meth : Nat → List PV → List PV → Option PV

def encM (r : PV) (cells : List PV) : PV := .tuple [r, .agg cells]

def freezeM : List AObj → AV → Option PV
 | .cells cs :: rest, v => match freezes (.dead :: rest) cs with
  | some ps => match frzN DEEP (.dead :: rest) v with
   | some r => some (encM r ps)
   | none => none
  | none => none
 | _, _ => none

def callC2 (kn : Know2) (E : Env (Option PV)) (f : Nat) (args : List PV) : Option PV := match kn.known f args with
 | some r => some r
 | none => match kn.tab f with
  | some cf => mapK .p args fun args => evFunc E cf args [] (fun v H => frzN DEEP H v)
  | none => none
def callM2 (kn : Know2) (E : Env (Option PV)) (f : Nat) (cells args : List PV) : Option PV := match kn.meth f cells args with
 | some r => some r
 | none => match kn.tab f with
  | some cf => mapK .p args fun args => mapK .p cells fun cells => evFunc E cf (.ptr 0 0 :: args) [.cells cells] (fun v H => freezeM H v)
  | none => none

def allP : List AV → Option (List PV)
 | [] => some []
 | .p x :: r => match allP r with
  | some ps => some (x :: ps)
  | none => none
 | _ :: _ => none
theorem allP_eq : ∀ (cs : List AV) (ps : List PV), allP cs = some ps → cs = ps.map .p
 | [], ps, h => by simp only [allP] at h; cases h; rfl
 | c :: cs, ps, h => by
  cases c <;> simp only [allP] at h <;> try (cases h; done)
  split at h
  ·rename_i x ps' h1
   cases h
   rw [allP_eq cs ps' h1]; rfl
  ·cases h
def plainCs : List PV → Bool
 | [] => true
 | .int _ _ :: r => plainCs r
 | .bool _ :: r => plainCs r
 | .str _ :: r => plainCs r
 | _ :: _ => false
def callK {α : Type} (kn : Know2) (EV : Env (Option PV)) (inl : Nat → List AV → List AObj → (AV → List AObj → α) → α) (f : Nat) (args : List AV) (H : List AObj) (k : AV → List AObj → α) : α :=
 match AV.toPVs args with
 | some pa => match callC2 kn EV f pa with
  | some r => k (.p r) H
  | none => inl f args H k
 | none => match freezes H args with
  | some pa => match callC2 kn EV f pa with
   | some r => match flatPV r with
    | true => k (.p r) H
    | false => inl f args H k
   | none => inl f args H k
  | none => match args with
  | .ptr a 0 :: rest => match AV.toPVs rest with
   | some pr => match H[a]? with
    | some (.cells cs) => match allP cs with
     | some cells => match plainCs cells with
      | true => match callM2 kn EV f cells pr with
       | some (.tuple [r, .agg cells']) => k (.p r) (H.set a (.cells (cells'.map .p)))
       | _ => inl f args H k
      | false => inl f args H k
     | none => inl f args H k
    | _ => inl f args H k
   | none => inl f args H k
  | _ => inl f args H k
def callT (kn : Know2) (EA : Env (Option AV)) (f : Nat) (args : List AV) (n : Nat) : Option AV := match refsLt.refsLts n args with
 | true => match kn.tab f with
  | some cf => evFunc EA cf args (List.replicate n .dead) (fun v _ => some v)
  | none => none
 | false => none
def callF (kn : Know2) (EA : Env (Option AV)) (f : Nat) (args : List AV) (H : List AObj) (R : List Nat) : Option AV := match refsLt.refsLts H.length args with
 | true => match R.all (fun a => match H[a]? with | some o => refsObj H.length o | none => true) with
  | true => match kn.tab f with
   | some cf => evFunc EA cf args (mask R H) (fun v H' => match eqPre (mask R H) H' with
    | true => some v
    | false => none)
   | none => none
  | false => none
 | false => none
def callFD {α : Type} (fail : α) (kn : Know2) (EA : Env (Option AV)) (f : Nat) (args : List AV) (H : List AObj) (R : List Nat) (k : AV → List AObj → List Nat → List Nat → α) : α := match callF kn EA f args H R with
 | some v => match refsLt H.length v with
  | true => k v H R []
  | false => fail
 | none => fail
def callTD {α : Type} (fail : α) (kn : Know2) (EA : Env (Option AV)) (f : Nat) (args : List AV) (H : List AObj) (k : AV → List AObj → List Nat → List Nat → α) : α := match callT kn EA f args H.length with
 | some v => match refsLt H.length v with
  | true => k v H [] []
  | false => fail
 | none => callFD fail kn EA f args H (args.flatMap (refsD 6 H)) k
def callD {α : Type} (fail : α) (kn : Know2) (EV : Env (Option PV)) (EA : Env (Option AV)) (f : Nat) (args : List AV) (H : List AObj) (k : AV → List AObj → List Nat → List Nat → α) : α :=
 match AV.toPVs args with
 | some pa => match callC2 kn EV f pa with
  | some r => k (.p r) H [] []
  | none => fail
 | none => match freezes H args with
  | some pa => match callC2 kn EV f pa with
   | some r => match flatPV r with
    | true => k (.p r) H (refsAll H args) []
    | false => callTD fail kn EA f args H k
   | none => callTD fail kn EA f args H k
  | none => match args with
  | .ptr a 0 :: rest => match AV.toPVs rest with
   | some pr => match H[a]? with
    | some (.cells cs) => match allP cs with
     | some cells => match callM2 kn EV f cells pr with
      | some (.tuple [r, .agg cells']) => k (.p r) (H.set a (.cells (cells'.map .p))) [a] [a]
      | _ => callTD fail kn EA f args H k
     | none => callTD fail kn EA f args H k
    | _ => callTD fail kn EA f args H k
   | none => callTD fail kn EA f args H k
  | _ => callTD fail kn EA f args H k

def splitT : Nat → List COper → List COper × List COper
 | _, [] => ([], [])
 | j, c :: r => match tailB j (c :: r) with
  | true => ([], c :: r)
  | false => match splitT (j + 1) r with
   | (a, b) => (c :: a, b)
def envK (kn : Know2) (Gl : Nat → Option (List PV)) (N : Nat) : Nat → (β : Type) → Env (Option β)
 | 0, _ => { fail := none, glob := Gl, call := fun _ _ _ _ => none, loop := fun _ _ _ _ => none, join := fun _ _ _ _ _ => none, draw := fun _ _ _ _ => none }
 | d + 1, β => Env.mk none Gl
   (callK kn (envK kn Gl N d PV) fun f args H k => match kn.tab f with
     | some cf => evFunc (envK kn Gl N d β) cf args H k
     | none => none)
   (fun b tm H k => loopF (envK kn Gl N d β) b N tm H k)
   (fun a b tm H k => ev (envK kn Gl N d β) a tm H fun e tm H => match e with
    | .normal => ev (envK kn Gl N d β) b tm H k
    | .exit i => k (.exit i) tm H
    | .ret => k .ret tm H)
   (fun ops tm H k => match splitT 0 ops with
    | (pre, suf) => evOpsD (envK kn Gl N d β) (callD none kn (envK kn Gl N d PV) (envK kn Gl N d AV)) (fun tm H => evOps (envK kn Gl N d β) k suf tm H) pre tm H 0 [])
section
variable {P : Program} {Gl : Nat → Option (List PV)} {kn : Know2}

structure KnowOk2 (P : Program) (Gl : Nat → Option (List PV)) (kn : Know2) : Prop where
 tab : ∀ f cf, kn.tab f = some cf → chkFunc P f cf = true
 known : ∀ f args r, kn.known f args = some r → Pure P Gl f args r
 meth : ∀ f cells args r, kn.meth f cells args = some r → ∃ x cs', r = encM x cs' ∧ Meth P Gl f cells args x cs'

theorem callC2_sound (hkn : KnowOk2 P Gl kn) {E : Env (Option PV)} {f : Nat} {args : List PV} {r : PV} (hE : Hom E (EP P Gl) r) (h : callC2 kn E f args = some r) : Pure P Gl f args r := by
 unfold callC2 at h
 cases hk : kn.known f args with
 | some x => rw [hk] at h; cases h; exact hkn.known f args _ hk
 | none =>
  simp only [hk] at h
  cases ht : kn.tab f with
  | none => simp only [ht] at h; cases h
  | some cf =>
   simp only [ht, mapK_eq] at h
   exact pure_of_ev (hkn.tab f cf ht) (evFunc_hom hE (fun v H hv => frz_K (fun _ _ _ ho => ⟨trivial, ho⟩) (frzN_spec DEEP v r hv)) h)

theorem frz_dead {H1 H2 : List AObj} {K1 K2 : Nat → Prop} (h : ∀ a o, K1 a → H1[a]? = some o → ∀ cs, o = .cells cs → K2 a ∧ H2[a]? = some o) {v : AV} {x : PV} (hf : Frz K1 H1 v x) : Frz K2 H2 v x := by
 induction hf with
 | p x => exact .p x
 | nil esz => exact .nil esz
 | slice esz a off len cs rows hk ho hl hr hn hv ih =>
  obtain ⟨k1, k2⟩ := h a _ hk ho cs rfl
  exact .slice esz a off len cs rows k1 k2 hl hr hn ih
 | agg cs ps hn _ ih => exact .agg cs ps hn ih
 | tuple cs ps hn _ ih => exact .tuple cs ps hn ih
 | func fn a b a' b' n1 _ n2 _ ih1 ih2 => exact .func fn a b a' b' n1 ih1 n2 ih2
 | iface t v x _ ih => exact .iface t v x ih

theorem freezeM_spec {H : List AObj} {v : AV} {x : PV} (h : freezeM H v = some x) : ∃ r cs', x = encM r cs' ∧ ∃ cs rest, H = .cells cs :: rest ∧ FrzL (fun a => a ≠ 0) H cs cs' ∧ Frz (fun a => a ≠ 0) H v r := by
 unfold freezeM at h
 split at h
 ·rename_i cs rest
  split at h
  ·rename_i ps h1
   split at h
   ·rename_i r h2
    cases h
    have key : ∀ {K : Nat → Prop} {v : AV} {x : PV}, Frz K (AObj.dead :: rest) v x → Frz (fun a => a ≠ 0) (AObj.cells cs :: rest) v x := by
     intro K v x hf
     refine frz_dead (fun a o _ ho cs' hc => ?_) hf
     cases a with
     | zero => simp at ho; rw [← ho] at hc; cases hc
     | succ a => exact ⟨by simp, by simpa using ho⟩
    have q := freezes_spec _ _ h1
    exact ⟨r, ps, rfl, cs, rest, rfl, ⟨q.1, fun i v x hv hx => key (q.2 i v x hv hx)⟩, key (frzN_spec DEEP _ _ h2)⟩
   ·cases h
  ·cases h
 ·cases h

theorem callM2_sound (hkn : KnowOk2 P Gl kn) {E : Env (Option PV)} {f : Nat} {cells args : List PV} {x : PV} {cs' : List PV} (hE : Hom E (EP P Gl) (encM x cs')) (h : callM2 kn E f cells args = some (encM x cs')) : Meth P Gl f cells args x cs' := by
 unfold callM2 at h
 cases hk : kn.meth f cells args with
 | some y =>
  rw [hk] at h; cases h
  obtain ⟨y, cs'', e, q⟩ := hkn.meth f cells args _ hk
  simp only [encM, PV.tuple.injEq, List.cons.injEq, PV.agg.injEq, and_true] at e
  obtain ⟨rfl, rfl⟩ := e
  exact q
 | none =>
  simp only [hk] at h
  cases ht : kn.tab f with
  | none => simp only [ht] at h; cases h
  | some cf =>
   simp only [ht, mapK_eq] at h
   refine meth_of_ev (hkn.tab f cf ht) (evFunc_hom hE (fun v H hv => ?_) h)
   obtain ⟨y', cs'', e, q⟩ := freezeM_spec hv
   simp only [encM, PV.tuple.injEq, List.cons.injEq, PV.agg.injEq, and_true] at e
   obtain ⟨rfl, rfl⟩ := e
   exact q

theorem callK_hom (hkn : KnowOk2 P Gl kn) {β : Type} {EV : Env (Option PV)} (hEV : ∀ r, Hom EV (EP P Gl) r) {r : β} {inl : Nat → List AV → List AObj → (AV → List AObj → Option β) → Option β} {f : Nat} {args : List AV} {H : List AObj}
  {kO : AV → List AObj → Option β} {kP : AV → List AObj → Prop} (hk : ∀ v H', kO v H' = some r → kP v H') (hinl : inl f args H kO = some r → CallsA P Gl f args H kP) (he : callK kn EV inl f args H kO = some r) : CallsA P Gl f args H kP := by
 unfold callK at he
 split at he
 ·rename_i pa h1
  split at he
  ·rename_i x h2
   exact call_pure (callC2_sound hkn (hEV x) h2) (toPVs_frz args pa h1) (hk _ _ he)
  ·exact hinl he
 split at he
 ·rename_i pa h1
  split at he
  ·rename_i x h2
   split at he
   ·rename_i h3
    have q := freezes_spec args pa h1
    exact call_look (callC2_sound hkn (hEV x) h2) ⟨q.1, fun i v x hv hx => frz_K (fun a o _ ho => ⟨trivial, ho⟩) (q.2 i v x hv hx)⟩ h3 (hk _ _ he)
   ·exact hinl he
  ·exact hinl he
 ·split at he
  ·rename_i a rest _ _
   split at he
   ·rename_i pr h1
    split at he
    ·rename_i cs ha
     split at he
     ·rename_i cells hc
      split at he
      ·split at he
       ·rename_i x cells' h2
        exact call_meth (callM2_sound hkn (hEV _) h2) (by rw [ha, allP_eq _ _ hc]) (toPVs_frz rest pr h1) (hk _ _ he)
       ·exact hinl he
      ·exact hinl he
     ·exact hinl he
    ·exact hinl he
   ·exact hinl he
  ·exact hinl he

theorem callFD_hom (hkn : KnowOk2 P Gl kn) {β : Type} {EA : Env (Option AV)} (hEA : ∀ r, Hom EA (EP P Gl) r) {r : β} {f : Nat} {args : List AV} {H : List AObj} {R : List Nat}
  {kO : AV → List AObj → List Nat → List Nat → Option β} {kP : AV → List AObj → List Nat → List Nat → Prop} (hk : ∀ v H' R A, kO v H' R A = some r → kP v H' R A) (he : callFD none kn EA f args H R kO = some r) : dcallP P Gl f args H kP := by
 unfold callFD at he
 split at he
 ·rename_i v hv
  unfold callF at hv
  split at hv
  ·rename_i h1
   split at hv
   ·rename_i h2
    split at hv
    ·rename_i cf hcf
     split at he
     ·rename_i hr
      have hc : CallsA P Gl f args (mask R H) (fun v0 H' => v0 = v ∧ ∃ rest, H' = mask R H ++ rest) := inline (hkn.tab f cf hcf) (evFunc_hom (hEA v) (fun v0 H' h => by
       split at h
       ·rename_i hp; cases h; exact ⟨rfl, eqPre_ok _ _ hp⟩
       ·cases h) hv)
      refine dcall_frame R h1 hr (fun a ha o ho => ?_) hc (hk _ _ _ _ he)
      have := List.all_eq_true.1 h2 a ha
      rw [ho] at this; exact this
     ·cases he
    ·cases hv
   ·cases hv
  ·cases hv
 ·cases he
theorem callTD_hom (hkn : KnowOk2 P Gl kn) {β : Type} {EA : Env (Option AV)} (hEA : ∀ r, Hom EA (EP P Gl) r) {r : β} {f : Nat} {args : List AV} {H : List AObj}
  {kO : AV → List AObj → List Nat → List Nat → Option β} {kP : AV → List AObj → List Nat → List Nat → Prop} (hk : ∀ v H' R A, kO v H' R A = some r → kP v H' R A) (he : callTD none kn EA f args H kO = some r) : dcallP P Gl f args H kP := by
 unfold callTD at he
 split at he
 ·rename_i v hv
  unfold callT at hv
  split at hv
  ·rename_i h1
   split at hv
   ·rename_i cf hcf
    split at he
    ·rename_i hr
     have hc : CallsA P Gl f args (List.replicate H.length .dead) (fun v0 _ => v0 = v) := inline (hkn.tab f cf hcf) (evFunc_hom (hEA v) (fun v0 H' h => by cases h; rfl) hv)
     exact ⟨[], [], v, fun s h => (by cases h), fun H2 _ => calls_mono (call_trans h1 hr hc H2) (fun v' H' ⟨e1, e2⟩ => ⟨e1, e2⟩), hk _ _ _ _ he⟩
    ·cases he
   ·cases hv
  ·cases hv
 ·exact callFD_hom hkn hEA hk he
theorem callD_hom (hkn : KnowOk2 P Gl kn) {β : Type} {EV : Env (Option PV)} (hEV : ∀ r, Hom EV (EP P Gl) r) {EA : Env (Option AV)} (hEA : ∀ r, Hom EA (EP P Gl) r) {r : β} {f : Nat} {args : List AV} {H : List AObj}
  {kO : AV → List AObj → List Nat → List Nat → Option β} {kP : AV → List AObj → List Nat → List Nat → Prop} (hk : ∀ v H' R A, kO v H' R A = some r → kP v H' R A) (he : callD none kn EV EA f args H kO = some r) : dcallP P Gl f args H kP := by
 unfold callD at he
 split at he
 ·rename_i pa h1
  split at he
  ·rename_i x h2
   have hp := callC2_sound hkn (hEV x) h2
   exact ⟨[], [], .p x, fun s h => (by cases h), fun H2 _ => call_pure hp (toPVs_frz args pa h1) ⟨rfl, rfl⟩, hk _ _ _ _ he⟩
  ·cases he
 split at he
 ·rename_i pa h1
  split at he
  ·rename_i x h2
   split at he
   ·rename_i h3
    have q := freezes_spec args pa h1
    have hp := callC2_sound hkn (hEV x) h2
    exact ⟨refsAll H args, [], .p x, fun s h => (by cases h), fun H2 hH2 => call_look hp ⟨q.1, fun i v x hv hx => frz_K (fun a o hk ho => ⟨trivial, hH2 a hk o ho⟩) (q.2 i v x hv hx)⟩ h3 ⟨rfl, rfl⟩, hk _ _ _ _ he⟩
   ·exact callTD_hom hkn hEA hk he
  ·exact callTD_hom hkn hEA hk he
 ·split at he
  ·rename_i a rest _ _
   split at he
   ·rename_i pr h1
    split at he
    ·rename_i cs ha
     split at he
     ·rename_i cells hc
      split at he
      ·rename_i x cells' h2
       have hm := callM2_sound hkn (hEV _) h2
       refine ⟨[a], [(a, .cells (cells'.map .p))], .p x, fun s hs => ?_, fun H2 hH2 => ?_, hk _ _ _ _ he⟩
       ·simp at hs; subst hs; exact (List.getElem?_eq_some_iff.1 ha).1
       ·refine call_meth hm ?_ (toPVs_frz rest pr h1) ⟨rfl, rfl⟩
        rw [hH2 a (by simp) _ ha, allP_eq _ _ hc]
      ·exact callTD_hom hkn hEA hk he
     ·exact callTD_hom hkn hEA hk he
    ·exact callTD_hom hkn hEA hk he
   ·exact callTD_hom hkn hEA hk he
  ·exact callTD_hom hkn hEA hk he

theorem splitT_spec : ∀ (cs : List COper) (j : Nat), cs = (splitT j cs).1 ++ (splitT j cs).2 ∧ tailB (j + (splitT j cs).1.length) (splitT j cs).2 = true
 | [], j => ⟨rfl, rfl⟩
 | c :: r, j => by
  simp only [splitT]
  split
  ·rename_i ht; exact ⟨rfl, ht⟩
  ·obtain ⟨h1, h2⟩ := splitT_spec r (j + 1)
   refine ⟨by simp only [List.cons_append]; rw [← h1], ?_⟩
   rw [List.length_cons, show j + ((splitT (j + 1) r).1.length + 1) = j + 1 + (splitT (j + 1) r).1.length by omega]; exact h2
theorem envK_hom (hkn : KnowOk2 P Gl kn) (N : Nat) : ∀ (d : Nat) (β : Type) (r : β), Hom (envK kn Gl N d β) (EP P Gl) r
 | 0, β, r => ⟨rfl, rfl, fun f a H kO kP hk he => (by simp only [envK] at he; cases he), fun b tm H kO kP hk he => (by simp only [envK] at he; cases he), fun a b tm H kO kP hk he => (by simp only [envK] at he; cases he), fun b tm H kO kP hk he => (by simp only [envK] at he; cases he)⟩
 | d + 1, β, r => by
  have ih := envK_hom hkn N d
  refine ⟨rfl, rfl, fun f a H kO kP hk he => ?_, fun b tm H kO kP hk he => ?_, fun a b tm H kO kP hk he => ?_, fun ops tm H kO kP hk he => ?_⟩
  ·simp only [envK] at he
   refine callK_hom hkn (ih PV) hk (fun he => ?_) he
   cases ht : kn.tab f with
   | none => simp only [ht] at he; cases he
   | some cf =>
    simp only [ht] at he
    exact inline (hkn.tab f cf ht) (evFunc_hom (ih β r) hk he)
  ·simp only [envK] at he
   exact loop_unroll N (loopF_hom (ih β r) hk N tm H he)
  ·simp only [envK] at he
   refine seq_rule (ev_hom (ih β r) a tm H _ _ (fun e v H' hv => ?_) he)
   cases e with
   | normal => exact ev_hom (ih β r) b v H' kO kP hk hv
   | exit i => exact hk _ _ _ hv
   | ret => exact hk _ _ _ hv
  ·simp only [envK] at he
   obtain ⟨h1, h2⟩ := splitT_spec ops 0
   rw [Nat.zero_add] at h2
   generalize (splitT 0 ops).1 = pre at he h1 h2
   generalize (splitT 0 ops).2 = suf at he h1 h2
   subst h1
   cases suf with
   | nil =>
    rw [List.append_nil]
    exact draw_rule (evOpsD_hom (dP := dcallP P Gl) (ih β r) (fun f a H kO kP hk he => callD_hom hkn (ih PV) (ih AV) hk he) hk pre tm H 0 [] he)
   | cons c0 suf => exact draw_tail h2 (evOpsD_hom (dP := dcallP P Gl) (ih β r) (fun f a H kO kP hk he => callD_hom hkn (ih PV) (ih AV) hk he) (fun tm' H' hv => evOps_hom (ih β r) hk _ tm' H' hv) pre tm H 0 [] he)

theorem pure_closed2 (hkn : KnowOk2 P Gl kn) {N d : Nat} {f : Nat} {args : List PV} {r : PV} (h : callC2 kn (envK kn Gl N d PV) f args = some r) : Pure P Gl f args r :=
 callC2_sound hkn (envK_hom hkn N d PV r) h
end
end
end Go.Av
