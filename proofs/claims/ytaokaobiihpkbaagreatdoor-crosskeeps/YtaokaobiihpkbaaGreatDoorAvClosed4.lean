/- Part of the proof of CrossKeeps: for every input the law returns true; no condition. -/
import Derived.Test.YtaokaobiihpkbaaGreatDoorAvClosed
import Derived.Test.YtaokaobiihpkbaaGreatDoorAvDrawt
import Derived.Test.YtaokaobiihpkbaaGreatDoorAvMeth
import Derived.Test.YtaokaobiihpkbaaGreatDoorAvLook
import Derived.Test.YtaokaobiihpkbaaGreatDoorAvFrame
set_option linter.all false
namespace Go.Av
noncomputable section

structure Know2 where
 tab:Nat→Option CFunc
 known:Nat→List PV→Option PV
 meth:Nat→List PV→List PV→Option PV

def Qxv (r:PV) (cells:List PV):PV := .tuple [r,.agg cells]

def Qlk:List AObj→AV→Option PV
 | .cells cs::rest,v=>match Qe3 (.dead::rest) cs with
  | some ps=>match Qom Qy7 (.dead::rest) v with
   | some r=>some (Qxv r ps)
   | none=>none
  | none=>none
 | _,_=>none

def Q8n (kn:Know2) (E:Env (Option PV)) (f:Nat) (args:List PV):Option PV:=match kn.known f args with
 | some r=>some r
 | none=>match kn.tab f with
  | some cf=>Q9w .p args fun args=>Q39 E cf args [] (fun v H=>Qom Qy7 H v)
  | none=>none
def Qio (kn:Know2) (E:Env (Option PV)) (f:Nat) (cells args:List PV):Option PV:=match kn.meth f cells args with
 | some r=>some r
 | none=>match kn.tab f with
  | some cf=>Q9w .p args fun args=>Q9w .p cells fun cells=>Q39 E cf (.ptr 0 0::args) [.cells cells] (fun v H=>Qlk H v)
  | none=>none

def Qya:List AV→Option (List PV)
 | []=>some []
 | .p x::r=>match Qya r with
  | some ps=>some (x::ps)
  | none=>none
 | _::_=>none
theorem Qhh:∀ (cs:List AV) (ps:List PV),Qya cs=some ps→cs=ps.map .p
 | [],ps,h=>by simp only [Qya] at h;cases h;rfl
 | c::cs,ps,h=>by
  cases c<;>simp only [Qya] at h<;>try (cases h;done)
  split at h
  ·rename_i x ps' h1;cases h;rw [Qhh cs ps' h1];rfl
  cases h
def Qhm:List PV→Bool
 | []=>true
 | .int _ _::r=>Qhm r
 | .bool _::r=>Qhm r
 | .str _::r=>Qhm r
 | _::_=>false
def Qty {α:Type} (kn:Know2) (EV:Env (Option PV)) (inl:Nat→List AV→List AObj→(AV→List AObj → α) → α) (f:Nat) (args:List AV) (H:List AObj) (k:AV→List AObj → α) : α:=
 match AV.toPVs args with
 | some pa=>match Q8n kn EV f pa with
  | some r=>k (.p r) H
  | none=>inl f args H k
 | none=>match Qe3 H args with
  | some pa=>match Q8n kn EV f pa with
   | some r=>match G0 r with
    | true=>k (.p r) H
    | false=>inl f args H k
   | none=>inl f args H k
  | none=>match args with
  | .ptr a 0::rest=>match AV.toPVs rest with
   | some pr=>match H[a]? with
    | some (.cells cs)=>match Qya cs with
     | some cells=>match Qhm cells with
      | true=>match Qio kn EV f cells pr with
       | some (.tuple [r,.agg cells'])=>k (.p r) (H.set a (.cells (cells'.map .p)))
       | _=>inl f args H k
      | false=>inl f args H k
     | none=>inl f args H k
    | _=>inl f args H k
   | none=>inl f args H k
  | _=>inl f args H k
def Qyt (kn:Know2) (EA:Env (Option AV)) (f:Nat) (args:List AV) (n:Nat):Option AV:=match refsLt.refsLts n args with
 | true=>match kn.tab f with
  | some cf=>Q39 EA cf args (List.replicate n .dead) (fun v _=>some v)
  | none=>none
 | false=>none
def Z0g (kn:Know2) (EA:Env (Option AV)) (f:Nat) (args:List AV) (H:List AObj) (R:List Nat):Option AV:=match refsLt.refsLts H.length args with
 | true=>match R.all (fun a=>match H[a]? with | some o=>Jy H.length o | none=>true) with
  | true=>match kn.tab f with
   | some cf=>Q39 EA cf args (Qi1 R H) (fun v H'=>match Qrw (Qi1 R H) H' with
    | true=>some v
    | false=>none)
   | none=>none
  | false=>none
 | false=>none
def Qrr (R:List Nat):List (Nat×AObj):=R.map fun a=>(a,.dead)
def Qqc {α:Type} (fail : α) (z:Unit → α) (kn:Know2) (EA:Env (Option AV)) (f:Nat) (args:List AV) (H:List AObj) (R:List Nat) (k:AV→List AObj→List Nat→List Nat → α) : α:=match Z0g kn EA f args H R with
 | some v=>match refsLt H.length v with
  | true=>k v H R []
  | false=>z ()
 | none=>z ()
def Q38 {α:Type} (fail : α) (z:Unit → α) (kn:Know2) (EA:Env (Option AV)) (f:Nat) (args:List AV) (H:List AObj) (k:AV→List AObj→List Nat→List Nat → α) : α:=match Qyt kn EA f args H.length with
 | some v=>match refsLt H.length v with
  | true=>k v H [] []
  | false=>z ()
 | none=>Qqc fail z kn EA f args H (args.flatMap (Qhn 12 H)) k
def Qxr {α:Type} (fail : α) (kn:Know2) (EV:Env (Option PV)) (EA:Env (Option AV)) (f:Nat) (args:List AV) (H:List AObj) (k:AV→List AObj→List Nat→List Nat → α) : α:=
 match AV.toPVs args with
 | some pa=>match Q8n kn EV f pa with
  | some r=>k (.p r) H [] []
  | none=>fail
 | none=>match Qe3 H args with
  | some pa=>match Q8n kn EV f pa with
   | some r=>match G0 r with
    | true=>k (.p r) H (Q2d H args) []
    | false=>Q38 fail (fun _=>match (Q2d H args).all (fun a=>Nat.blt a H.length) with
     | true=>k (.p r) (Q1y (Qrr (Q2d H args)) H) (Q2d H args) (Q2d H args)
     | false=>fail) kn EA f args H k
   | none=>Q38 fail (fun _=>fail) kn EA f args H k
  | none=>match args with
  | .ptr a 0::rest=>match AV.toPVs rest with
   | some pr=>match H[a]? with
    | some (.cells cs)=>match Qya cs with
     | some cells=>match Qio kn EV f cells pr with
      | some (.tuple [r,.agg cells'])=>k (.p r) (H.set a (.cells (cells'.map .p))) [a] [a]
      | _=>Q38 fail (fun _=>fail) kn EA f args H k
     | none=>Q38 fail (fun _=>fail) kn EA f args H k
    | _=>Q38 fail (fun _=>fail) kn EA f args H k
   | none=>Q38 fail (fun _=>fail) kn EA f args H k
  | _=>Q38 fail (fun _=>fail) kn EA f args H k

def Q37:Nat→List COper→List COper×List COper
 | _,[]=>([],[])
 | j,c::r=>match Qdm j (c::r) with
  | true=>([],c::r)
  | false=>match Q37 (j+1) r with
   | (a,b)=>(c::a,b)
def Qhp (kn:Know2) (Gl:Nat→Option (List PV)) (N:Nat):Nat→(β:Type)→Env (Option β)
 | 0,_ => { fail:=none,cmp:=⟨Q4,rfl⟩,scmp:=⟨G9,rfl⟩,glob:=Gl,call:=fun _ _ _ _=>none,loop:=fun _ _ _ _=>none,join:=fun _ _ _ _ _=>none,draw:=fun _ _ _ _=>none }
 | d+1,β=>Env.mk none ⟨Q4,rfl⟩ ⟨G9,rfl⟩ Gl
   (Qty kn (Qhp kn Gl N d PV) fun f args H k=>match kn.tab f with
     | some cf=>Q39 (Qhp kn Gl N d β) cf args H k
     | none=>none)
   (fun b tm H k=>Qiy (Qhp kn Gl N d β) b N tm H k)
   (fun a b tm H k=>ev (Qhp kn Gl N d β) a tm H fun e tm H=>match e with
    | .normal=>ev (Qhp kn Gl N d β) b tm H k
    | .exit i=>k (.exit i) tm H
    | .ret=>k .ret tm H)
   (fun ops tm H k=>match Q37 0 ops with
    | (pre,suf)=>Uq (Qhp kn Gl N d β) (Qxr none kn (Qhp kn Gl N d PV) (Qhp kn Gl N d AV)) (fun tm H=>U5 (Qhp kn Gl N d β) k suf tm H) pre tm H 0 [])
section
variable {P:Program} {Gl:Nat→Option (List PV)} {kn:Know2}

structure KnowOk2 (P:Program) (Gl:Nat→Option (List PV)) (kn:Know2):Prop where
 tab:∀ f cf,kn.tab f=some cf→Q29 P f cf=true
 known:∀ f args r,kn.known f args=some r→Q8t P Gl f args r
 meth:∀ f cells args r,kn.meth f cells args=some r→∃ x cs',r=Qxv x cs'∧Qpj P Gl f cells args x cs'

theorem U6 (hkn:KnowOk2 P Gl kn) {E:Env (Option PV)} {f:Nat} {args:List PV} {r:PV} (hE:Hom E (EP P Gl) r) (h:Q8n kn E f args=some r):Q8t P Gl f args r:=by
 unfold Q8n at h
 cases hk:kn.known f args with
 | some x=>rw [hk] at h;cases h;exact hkn.known f args _ hk
 | none=>
  simp only [hk] at h
  cases ht:kn.tab f with
  | none=>simp only [ht] at h;cases h
  | some cf=>
   simp only [ht,Va] at h;exact Q2 (hkn.tab f cf ht) (Q2b hE (fun v H hv=>Qb4 (fun _ _ _ ho=>⟨trivial,ho⟩) (Qa5 Qy7 v r hv)) h)

theorem Qt0 {H1 H2:List AObj} {K1 K2:Nat→Prop} (h:∀ a o,K1 a→H1[a]? = some o→o ≠ .dead→K2 a∧H2[a]? = some o) {v:AV} {x:PV} (hf:Frz K1 H1 v x):Frz K2 H2 v x:=by
 induction hf with
 | p x=>exact .p x
 | nil esz=>exact .nil esz
 | zero esz=>exact .zero esz
 | slice esz a off len cs rows hk ho hl hr hn hv ih=>
  obtain ⟨k1,k2⟩:=h a _ hk ho (by simp);exact .slice esz a off len cs rows k1 k2 hl hr hn ih
 | agg cs ps hn _ ih=>exact .agg cs ps hn ih
 | tuple cs ps hn _ ih=>exact .tuple cs ps hn ih
 | func fn a b a' b' n1 _ n2 _ ih1 ih2=>exact .func fn a b a' b' n1 ih1 n2 ih2
 | iface t v x _ ih=>exact .iface t v x ih
 | map r es ps hk ho hn hkk _ ih=>
  obtain ⟨k1,k2⟩:=h r _ hk ho (by simp);exact .map r es ps k1 k2 hn hkk ih

theorem Qjm {H:List AObj} {v:AV} {x:PV} (h:Qlk H v=some x):∃ r cs',x=Qxv r cs'∧∃ cs rest,H = .cells cs::rest∧FrzL (fun a=>a≠0) H cs cs'∧Frz (fun a=>a≠0) H v r:=by
 unfold Qlk at h;split at h
 ·rename_i cs rest;split at h
  ·rename_i ps h1;split at h
   ·rename_i r h2;cases h
    have key:∀ {K:Nat→Prop} {v:AV} {x:PV},Frz K (AObj.dead::rest) v x→Frz (fun a=>a≠0) (AObj.cells cs::rest) v x:=by
     intro K v x hf;refine Qt0 (fun a o _ ho hc=>?_) hf
     cases a with
     | zero=>simp at ho;exact absurd ho.symm hc
     | succ a=>exact ⟨by simp,by simpa using ho⟩
    have q:=Q14 _ _ h1;exact ⟨r,ps,rfl,cs,rest,rfl,⟨q.1,fun i v x hv hx=>key (q.2 i v x hv hx)⟩,key (Qa5 Qy7 _ _ h2)⟩
   cases h
  cases h
 ·cases h

theorem Q7k (hkn:KnowOk2 P Gl kn) {E:Env (Option PV)} {f:Nat} {cells args:List PV} {x:PV} {cs':List PV} (hE:Hom E (EP P Gl) (Qxv x cs')) (h:Qio kn E f cells args=some (Qxv x cs')):Qpj P Gl f cells args x cs':=by
 unfold Qio at h
 cases hk:kn.meth f cells args with
 | some y=>
  rw [hk] at h;cases h;obtain ⟨y,cs'',e,q⟩:=hkn.meth f cells args _ hk;simp only [Qxv,PV.tuple.injEq,Br,PV.agg.injEq,and_true] at e;obtain ⟨rfl,rfl⟩:=e;exact q
 | none=>
  simp only [hk] at h
  cases ht:kn.tab f with
  | none=>simp only [ht] at h;cases h
  | some cf=>
   simp only [ht,Va] at h;refine Q5e (hkn.tab f cf ht) (Q2b hE (fun v H hv=>?_) h);obtain ⟨y',cs'',e,q⟩:=Qjm hv;simp only [Qxv,PV.tuple.injEq,Br,PV.agg.injEq,and_true] at e;obtain ⟨rfl,rfl⟩:=e;exact q

theorem Qj5 (hkn:KnowOk2 P Gl kn) {β:Type} {EV:Env (Option PV)} (hEV:∀ r,Hom EV (EP P Gl) r) {r : β} {inl:Nat→List AV→List AObj→(AV→List AObj→Option β)→Option β} {f:Nat} {args:List AV} {H:List AObj}
  {kO:AV→List AObj→Option β} {kP:AV→List AObj→Prop} (hk:∀ v H',kO v H'=some r→kP v H') (hinl:inl f args H kO=some r→Qw P Gl f args H kP) (he:Qty kn EV inl f args H kO=some r):Qw P Gl f args H kP:=by
 unfold Qty at he;split at he
 ·rename_i pa h1;split at he
  ·rename_i x h2;exact Wl (U6 hkn (hEV x) h2) (Gm args pa h1) (hk _ _ he)
  exact hinl he
 split at he
 ·rename_i pa h1;split at he
  ·rename_i x h2;split at he
   ·rename_i h3;have q:=Q14 args pa h1;exact Q9u (U6 hkn (hEV x) h2) ⟨q.1,fun i v x hv hx=>Qb4 (fun a o _ ho=>⟨trivial,ho⟩) (q.2 i v x hv hx)⟩ h3 (hk _ _ he)
   exact hinl he
  exact hinl he
 ·split at he
  ·rename_i a rest _ _;split at he
   ·rename_i pr h1;split at he
    ·rename_i cs ha;split at he
     ·rename_i cells hc;split at he
      ·split at he
       ·rename_i x cells' h2;exact Q7g (Q7k hkn (hEV _) h2) (by rw [ha,Qhh _ _ hc]) (Gm rest pr h1) (hk _ _ he)
       exact hinl he
      exact hinl he
     exact hinl he
    exact hinl he
   exact hinl he
  ·exact hinl he

theorem Qob (hkn:KnowOk2 P Gl kn) {β:Type} {EA:Env (Option AV)} (hEA:∀ r,Hom EA (EP P Gl) r) {r : β} {f:Nat} {args:List AV} {H:List AObj} {R:List Nat}
  {kO:AV→List AObj→List Nat→List Nat→Option β} {kP:AV→List AObj→List Nat→List Nat→Prop} (hk:∀ v H' R A,kO v H' R A=some r→kP v H' R A) {z:Unit→Option β} (hz:z ()=some r→Xu P Gl f args H kP) (he:Qqc none z kn EA f args H R kO=some r):Xu P Gl f args H kP:=by
 unfold Qqc at he;split at he
 ·rename_i v hv;unfold Z0g at hv;split at hv
  ·rename_i h1;split at hv
   ·rename_i h2;split at hv
    ·rename_i cf hcf;split at he
     ·rename_i hr
      have hc:Qw P Gl f args (Qi1 R H) (fun v0 H'=>v0=v∧∃ rest,H'=Qi1 R H++rest):=Qa (hkn.tab f cf hcf) (Q2b (hEA v) (fun v0 H' h=>by
       split at h
       ·rename_i hp;cases h;exact ⟨rfl,Qnz _ _ hp⟩
       cases h) hv)
      refine Q94 R h1 hr (fun a ha o ho=>?_) hc (hk _ _ _ _ he);have:=Lp.1 h2 a ha;rw [ho] at this;exact this
     exact hz he
    cases hv
   cases hv
  cases hv
 exact hz he
theorem Vj (hkn:KnowOk2 P Gl kn) {β:Type} {EA:Env (Option AV)} (hEA:∀ r,Hom EA (EP P Gl) r) {r : β} {f:Nat} {args:List AV} {H:List AObj}
  {kO:AV→List AObj→List Nat→List Nat→Option β} {kP:AV→List AObj→List Nat→List Nat→Prop} (hk:∀ v H' R A,kO v H' R A=some r→kP v H' R A) {z:Unit→Option β} (hz:z ()=some r→Xu P Gl f args H kP) (he:Q38 none z kn EA f args H kO=some r):Xu P Gl f args H kP:=by
 unfold Q38 at he;split at he
 ·rename_i v hv;unfold Qyt at hv;split at hv
  ·rename_i h1;split at hv
   ·rename_i cf hcf;split at he
    ·rename_i hr;have hc:Qw P Gl f args (List.replicate H.length .dead) (fun v0 _=>v0=v):=Qa (hkn.tab f cf hcf) (Q2b (hEA v) (fun v0 H' h=>by cases h;rfl) hv);exact .inl ⟨[],[],v,fun s h=>(by cases h),fun H2 _=>G7 (Qfe h1 hr hc H2) (fun v' H' ⟨e1,e2⟩=>⟨e1,e2⟩),hk _ _ _ _ he⟩
    exact hz he
   cases hv
  cases hv
 exact Qob hkn hEA hk hz he
theorem Qjk (hkn:KnowOk2 P Gl kn) {β:Type} {EV:Env (Option PV)} (hEV:∀ r,Hom EV (EP P Gl) r) {EA:Env (Option AV)} (hEA:∀ r,Hom EA (EP P Gl) r) {r : β} {f:Nat} {args:List AV} {H:List AObj}
  {kO:AV→List AObj→List Nat→List Nat→Option β} {kP:AV→List AObj→List Nat→List Nat→Prop} (hk:∀ v H' R A,kO v H' R A=some r→kP v H' R A) (he:Qxr none kn EV EA f args H kO=some r):Xu P Gl f args H kP:=by
 unfold Qxr at he;split at he
 ·rename_i pa h1;split at he
  ·rename_i x h2;have hp:=U6 hkn (hEV x) h2;exact .inl ⟨[],[],.p x,fun s h=>(by cases h),fun H2 _=>Wl hp (Gm args pa h1) ⟨rfl,rfl⟩,hk _ _ _ _ he⟩
  cases he
 split at he
 ·rename_i pa h1;split at he
  ·rename_i x h2;split at he
   ·rename_i h3;have q:=Q14 args pa h1;have hp:=U6 hkn (hEV x) h2;exact .inl ⟨Q2d H args,[],.p x,fun s h=>(by cases h),fun H2 hH2=>Q9u hp ⟨q.1,fun i v x hv hx=>Qb4 (fun a o hk ho=>⟨trivial,hH2 a hk o ho⟩) (q.2 i v x hv hx)⟩ h3 ⟨rfl,rfl⟩,hk _ _ _ _ he⟩
   refine Vj hkn hEA hk (fun hz=>?_) he;split at hz
   ·rename_i hR;have q:=Q14 args pa h1;have hp:=U6 hkn (hEV x) h2;exact Qfz _ hp q (fun a ha=>by simpa using Lp.1 hR a ha) (hk _ _ _ _ hz)
   cases hz
  exact Vj hkn hEA hk (fun h=>by cases h) he
 ·split at he
  ·rename_i a rest _ _;split at he
   ·rename_i pr h1;split at he
    ·rename_i cs ha;split at he
     ·rename_i cells hc;split at he
      ·rename_i x cells' h2;have hm:=Q7k hkn (hEV _) h2;refine .inl ⟨[a],[(a,.cells (cells'.map .p))],.p x,fun s hs=>?_,fun H2 hH2=>?_,hk _ _ _ _ he⟩
       ·simp at hs;subst hs;exact (La.1 ha).1
       refine Q7g hm ?_ (Gm rest pr h1) ⟨rfl,rfl⟩;rw [hH2 a (by simp) _ ha,Qhh _ _ hc]
      exact Vj hkn hEA hk (fun h=>by cases h) he
     exact Vj hkn hEA hk (fun h=>by cases h) he
    exact Vj hkn hEA hk (fun h=>by cases h) he
   exact Vj hkn hEA hk (fun h=>by cases h) he
  ·exact Vj hkn hEA hk (fun h=>by cases h) he

theorem Q8s:∀ (cs:List COper) (j:Nat),cs=(Q37 j cs).1++(Q37 j cs).2∧Qdm (j+(Q37 j cs).1.length) (Q37 j cs).2=true
 | [],j=>⟨rfl,rfl⟩
 | c::r,j=>by
  simp only [Q37];split
  ·rename_i ht;exact ⟨rfl,ht⟩
  obtain ⟨h1,h2⟩:=Q8s r (j+1);refine ⟨by simp only [Bc];rw [← h1],?_⟩;rw [Mm,show j+((Q37 (j+1) r).1.length+1)=j+1+(Q37 (j+1) r).1.length by omega];exact h2
theorem Qms (hkn:KnowOk2 P Gl kn) (N:Nat):∀ (d:Nat) (β:Type) (r : β),Hom (Qhp kn Gl N d β) (EP P Gl) r
 | 0,β,r=>⟨rfl,rfl,fun f a H kO kP hk he=>(by simp only [Qhp] at he;cases he),fun b tm H kO kP hk he=>(by simp only [Qhp] at he;cases he),fun a b tm H kO kP hk he=>(by simp only [Qhp] at he;cases he),fun b tm H kO kP hk he=>(by simp only [Qhp] at he;cases he)⟩
 | d+1,β,r=>by
  have ih:=Qms hkn N d;refine ⟨rfl,rfl,fun f a H kO kP hk he=>?_,fun b tm H kO kP hk he=>?_,fun a b tm H kO kP hk he=>?_,fun ops tm H kO kP hk he=>?_⟩
  ·simp only [Qhp] at he;refine Qj5 hkn (ih PV) hk (fun he=>?_) he
   cases ht:kn.tab f with
   | none=>simp only [ht] at he;cases he
   | some cf=>
    simp only [ht] at he;exact Qa (hkn.tab f cf ht) (Q2b (ih β r) hk he)
  ·simp only [Qhp] at he;exact Z1 N (Qed (ih β r) hk N tm H he)
  ·simp only [Qhp] at he;refine Q4e (Q7m (ih β r) a tm H _ _ (fun e v H' hv=>?_) he)
   cases e with
   | normal=>exact Q7m (ih β r) b v H' kO kP hk hv
   | exit i=>exact hk _ _ _ hv
   | ret=>exact hk _ _ _ hv
  ·simp only [Qhp] at he;obtain ⟨h1,h2⟩:=Q8s ops 0;rw [Md] at h2;generalize (Q37 0 ops).1=pre at he h1 h2;generalize (Q37 0 ops).2=suf at he h1 h2;subst h1
   cases suf with
   | nil=>
    rw [Np];exact Qp (Q27 (dP:=Xu P Gl) (ih β r) (fun f a H kO kP hk he=>Qjk hkn (ih PV) (ih AV) hk he) hk pre tm H 0 [] he)
   | cons c0 suf=>exact Qen h2 (Q27 (dP:=Xu P Gl) (ih β r) (fun f a H kO kP hk he=>Qjk hkn (ih PV) (ih AV) hk he) (fun tm' H' hv=>Q5o (ih β r) hk _ tm' H' hv) pre tm H 0 [] he)

theorem Q4i (hkn:KnowOk2 P Gl kn) {N d:Nat} {f:Nat} {args:List PV} {r:PV} (h:Q8n kn (Qhp kn Gl N d PV) f args=some r):Q8t P Gl f args r:=
 U6 hkn (Qms hkn N d PV r) h
end
end
end Go.Av
