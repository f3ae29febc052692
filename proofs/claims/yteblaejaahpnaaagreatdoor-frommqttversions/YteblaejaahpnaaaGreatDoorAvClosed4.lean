/- Part of the proof of FrommqttVersions: for every input the law returns true; no condition. -/
import Derived.Test.YteblaejaahpnaaaGreatDoorAvClosed2
import Derived.Test.YteblaejaahpnaaaGreatDoorAvDrawt
import Derived.Test.YteblaejaahpnaaaGreatDoorAvMeth
import Derived.Test.YteblaejaahpnaaaGreatDoorAvTrans
import Derived.Test.YteblaejaahpnaaaGreatDoorAvFrame
import Derived.Test.YteblaejaahpnaaaGreatDoorAvEq
set_option linter.all false
namespace Go.Av
noncomputable section

structure Know2 where
 tab:Nat→Option CFunc
 known:Nat→List PV→Option PV
 meth:Nat→List PV→List PV→Option PV

def Qp8 (r:PV) (cells:List PV):PV := .tuple [r,.agg cells]

def Qf9:List AObj→AV→Option PV
 | .cells cs::rest,v=>match Qc4 (.dead::rest) cs with
  | some ps=>match Qi1 Qp5 (.dead::rest) v with
   | some r=>some (Qp8 r ps)
   | none=>none
  | none=>none
 | _,_=>none

def Q8x (kn:Know2) (E:Env (Option PV)) (f:Nat) (args:List PV):Option PV:=match kn.known f args with
 | some r=>some r
 | none=>match kn.tab f with
  | some cf=>Q6x .p args fun args=>Q25 E cf args [] (fun v H=>Qi1 Qp5 H v)
  | none=>none
def Qho (kn:Know2) (E:Env (Option PV)) (f:Nat) (cells args:List PV):Option PV:=match kn.meth f cells args with
 | some r=>some r
 | none=>match kn.tab f with
  | some cf=>Q6x .p args fun args=>Q6x .p cells fun cells=>Q25 E cf (.ptr 0 0::args) [.cells cells] (fun v H=>Qf9 H v)
  | none=>none

def Qpj:List AV→Option (List PV)
 | []=>some []
 | .p x::r=>match Qpj r with
  | some ps=>some (x::ps)
  | none=>none
 | _::_=>none
theorem Qfi:∀ (cs:List AV) (ps:List PV),Qpj cs=some ps→cs=ps.map .p
 | [],ps,h=>by simp only [Qpj] at h;cases h;rfl
 | c::cs,ps,h=>by
  cases c<;>simp only [Qpj] at h<;>try (cases h;done)
  split at h
  ·rename_i x ps' h1;cases h;rw [Qfi cs ps' h1];rfl
  cases h
def Qc5:List PV→Bool
 | []=>true
 | .int _ _::r=>Qc5 r
 | .bool _::r=>Qc5 r
 | .str _::r=>Qc5 r
 | _::_=>false
def Qon {α:Type} (kn:Know2) (EV:Env (Option PV)) (inl:Nat→List AV→List AObj→(AV→List AObj → α) → α) (f:Nat) (args:List AV) (H:List AObj) (k:AV→List AObj → α) : α:=
 match AV.toPVs args with
 | some pa=>match Q8x kn EV f pa with
  | some r=>k (.p r) H
  | none=>inl f args H k
 | none=>match Qc4 H args with
  | some pa=>match Q8x kn EV f pa with
   | some r=>match Q3p r with
    | true=>k (.p r) H
    | false=>inl f args H k
   | none=>inl f args H k
  | none=>match args with
  | .ptr a 0::rest=>match AV.toPVs rest with
   | some pr=>match H[a]? with
    | some (.cells cs)=>match Qpj cs with
     | some cells=>match Qc5 cells with
      | true=>match Qho kn EV f cells pr with
       | some (.tuple [r,.agg cells'])=>k (.p r) (H.set a (.cells (cells'.map .p)))
       | _=>inl f args H k
      | false=>inl f args H k
     | none=>inl f args H k
    | _=>inl f args H k
   | none=>inl f args H k
  | _=>inl f args H k
def Qqj (kn:Know2) (EA:Env (Option AV)) (f:Nat) (args:List AV) (n:Nat):Option AV:=match refsLt.refsLts n args with
 | true=>match kn.tab f with
  | some cf=>Q25 EA cf args (List.replicate n .dead) (fun v _=>some v)
  | none=>none
 | false=>none
def Qr3 (kn:Know2) (EA:Env (Option AV)) (f:Nat) (args:List AV) (H:List AObj) (R:List Nat):Option AV:=match refsLt.refsLts H.length args with
 | true=>match R.all (fun a=>match H[a]? with | some o=>Gh H.length o | none=>true) with
  | true=>match kn.tab f with
   | some cf=>Q25 EA cf args (Qd5 R H) (fun v H'=>match Qj6 (Qd5 R H) H' with
    | true=>some v
    | false=>none)
   | none=>none
  | false=>none
 | false=>none
def Qnu (R:List Nat):List (Nat×AObj):=R.map fun a=>(a,.dead)
def Qld {α:Type} (fail : α) (z:Unit → α) (kn:Know2) (EA:Env (Option AV)) (f:Nat) (args:List AV) (H:List AObj) (R:List Nat) (k:AV→List AObj→List Nat→List Nat → α) : α:=match Qr3 kn EA f args H R with
 | some v=>match refsLt H.length v with
  | true=>k v H R []
  | false=>z ()
 | none=>z ()
def Q6t {α:Type} (fail : α) (z:Unit → α) (kn:Know2) (EA:Env (Option AV)) (f:Nat) (args:List AV) (H:List AObj) (k:AV→List AObj→List Nat→List Nat → α) : α:=match Qqj kn EA f args H.length with
 | some v=>match refsLt H.length v with
  | true=>k v H [] []
  | false=>z ()
 | none=>Qld fail z kn EA f args H (args.flatMap (Qc3 12 H)) k
def Qoe {α:Type} (fail : α) (kn:Know2) (EV:Env (Option PV)) (EA:Env (Option AV)) (f:Nat) (args:List AV) (H:List AObj) (k:AV→List AObj→List Nat→List Nat → α) : α:=
 match AV.toPVs args with
 | some pa=>match Q8x kn EV f pa with
  | some r=>k (.p r) H [] []
  | none=>fail
 | none=>match Qc4 H args with
  | some pa=>match Q8x kn EV f pa with
   | some r=>match Q3p r with
    | true=>k (.p r) H (Q52 H args) []
    | false=>Q6t fail (fun _=>match (Q52 H args).all (fun a=>Nat.blt a H.length) with
     | true=>k (.p r) (Ge (Qnu (Q52 H args)) H) (Q52 H args) (Q52 H args)
     | false=>fail) kn EA f args H k
   | none=>Q6t fail (fun _=>fail) kn EA f args H k
  | none=>match args with
  | .ptr a 0::rest=>match AV.toPVs rest with
   | some pr=>match H[a]? with
    | some (.cells cs)=>match Qpj cs with
     | some cells=>match Qho kn EV f cells pr with
      | some (.tuple [r,.agg cells'])=>k (.p r) (H.set a (.cells (cells'.map .p))) [a] [a]
      | _=>Q6t fail (fun _=>fail) kn EA f args H k
     | none=>Q6t fail (fun _=>fail) kn EA f args H k
    | _=>Q6t fail (fun _=>fail) kn EA f args H k
   | none=>Q6t fail (fun _=>fail) kn EA f args H k
  | _=>Q6t fail (fun _=>fail) kn EA f args H k

def Q44:Nat→List COper→List COper×List COper
 | _,[]=>([],[])
 | j,c::r=>match Qih j (c::r) with
  | true=>([],c::r)
  | false=>match Q44 (j+1) r with
   | (a,b)=>(c::a,b)
def Qbv (kn:Know2) (Gl:Nat→Option (List PV)) (N:Nat):Nat→(β:Type)→Env (Option β)
 | 0,_ => { fail:=none,cmp:=⟨Q4,rfl⟩,scmp:=⟨G0,rfl⟩,glob:=Gl,call:=fun _ _ _ _=>none,loop:=fun _ _ _ _=>none,join:=fun _ _ _ _ _=>none,draw:=fun _ _ _ _=>none }
 | d+1,β=>Env.mk none ⟨Q4,rfl⟩ ⟨G0,rfl⟩ Gl
   (Qon kn (Qbv kn Gl N d PV) fun f args H k=>match kn.tab f with
     | some cf=>Q25 (Qbv kn Gl N d β) cf args H k
     | none=>none)
   (fun b tm H k=>Qfw (Qbv kn Gl N d β) b N tm H k)
   (fun a b tm H k=>ev (Qbv kn Gl N d β) a tm H fun e tm H=>match e with
    | .normal=>ev (Qbv kn Gl N d β) b tm H k
    | .exit i=>k (.exit i) tm H
    | .ret=>k .ret tm H)
   (fun ops tm H k=>match Q44 0 ops with
    | (pre,suf)=>Uq (Qbv kn Gl N d β) (Qoe none kn (Qbv kn Gl N d PV) (Qbv kn Gl N d AV)) (fun tm H=>Q19 (Qbv kn Gl N d β) k suf tm H) pre tm H 0 [])
section
variable {P:Program} {Gl:Nat→Option (List PV)} {kn:Know2}

structure KnowOk2 (P:Program) (Gl:Nat→Option (List PV)) (kn:Know2):Prop where
 tab:∀ f cf,kn.tab f=some cf→Q0b P f cf=true
 known:∀ f args r,kn.known f args=some r→Qg6 P Gl f args r
 meth:∀ f cells args r,kn.meth f cells args=some r→∃ x cs',r=Qp8 x cs'∧Qj1 P Gl f cells args x cs'

theorem Jb (hkn:KnowOk2 P Gl kn) {E:Env (Option PV)} {f:Nat} {args:List PV} {r:PV} (hE:Hom E (EP P Gl) r) (h:Q8x kn E f args=some r):Qg6 P Gl f args r:=by
 unfold Q8x at h
 cases hk:kn.known f args with
 | some x=>rw [hk] at h;cases h;exact hkn.known f args _ hk
 | none=>
  simp only [hk] at h
  cases ht:kn.tab f with
  | none=>simp only [ht] at h;cases h
  | some cf=>
   simp only [ht,Xr] at h;exact Q0 (hkn.tab f cf ht) (Q24 hE (fun v H hv=>Qan (fun _ _ _ ho=>⟨trivial,ho⟩) (Q6r Qp5 v r hv)) h)

theorem Qlz {H1 H2:List AObj} {K1 K2:Nat→Prop} (h:∀ a o,K1 a→H1[a]? = some o→o ≠ .dead→K2 a∧H2[a]? = some o) {v:AV} {x:PV} (hf:Frz K1 H1 v x):Frz K2 H2 v x:=by
 induction hf with
 | p x=>exact .p x
 | nil esz=>exact .nil esz
 | zero esz=>exact .zero esz
 | slice esz a off len cs rows hk ho hl hr hn hv ih=>
  obtain ⟨k1,k2⟩:=h a _ hk ho (by simp);exact .slice esz a off len cs rows k1 k2 hl hr hn ih
 | agg cs ps hn _ ih=>exact .agg cs ps hn ih
 | tuple cs ps hn _ ih=>exact .tuple cs ps hn ih
 | func fn a b a' b' n1 _ n2 _ ih1 ih2=>exact .func fn a b a' b' n1 ih1 n2 ih2
 | iface t v x _ ih=>exact .iface t v x ih
 | map r es ps hk ho hn hkk _ ih=>
  obtain ⟨k1,k2⟩:=h r _ hk ho (by simp);exact .map r es ps k1 k2 hn hkk ih

theorem Qdi {H:List AObj} {v:AV} {x:PV} (h:Qf9 H v=some x):∃ r cs',x=Qp8 r cs'∧∃ cs rest,H = .cells cs::rest∧FrzL (fun a=>a≠0) H cs cs'∧Frz (fun a=>a≠0) H v r:=by
 unfold Qf9 at h;split at h
 ·rename_i cs rest;split at h
  ·rename_i ps h1;split at h
   ·rename_i r h2;cases h
    have key:∀ {K:Nat→Prop} {v:AV} {x:PV},Frz K (AObj.dead::rest) v x→Frz (fun a=>a≠0) (AObj.cells cs::rest) v x:=by
     intro K v x hf;refine Qlz (fun a o _ ho hc=>?_) hf
     cases a with
     | zero=>simp at ho;exact absurd ho.symm hc
     | succ a=>exact ⟨by simp,by simpa using ho⟩
    have q:=Q1n _ _ h1;exact ⟨r,ps,rfl,cs,rest,rfl,⟨q.1,fun i v x hv hx=>key (q.2 i v x hv hx)⟩,key (Q6r Qp5 _ _ h2)⟩
   cases h
  cases h
 ·cases h

theorem Q7z (hkn:KnowOk2 P Gl kn) {E:Env (Option PV)} {f:Nat} {cells args:List PV} {x:PV} {cs':List PV} (hE:Hom E (EP P Gl) (Qp8 x cs')) (h:Qho kn E f cells args=some (Qp8 x cs')):Qj1 P Gl f cells args x cs':=by
 unfold Qho at h
 cases hk:kn.meth f cells args with
 | some y=>
  rw [hk] at h;cases h;obtain ⟨y,cs'',e,q⟩:=hkn.meth f cells args _ hk;simp only [Qp8,PV.tuple.injEq,By,PV.agg.injEq,and_true] at e;obtain ⟨rfl,rfl⟩:=e;exact q
 | none=>
  simp only [hk] at h
  cases ht:kn.tab f with
  | none=>simp only [ht] at h;cases h
  | some cf=>
   simp only [ht,Xr] at h;refine Gi (hkn.tab f cf ht) (Q24 hE (fun v H hv=>?_) h);obtain ⟨y',cs'',e,q⟩:=Qdi hv;simp only [Qp8,PV.tuple.injEq,By,PV.agg.injEq,and_true] at e;obtain ⟨rfl,rfl⟩:=e;exact q

theorem Qj9 (hkn:KnowOk2 P Gl kn) {β:Type} {EV:Env (Option PV)} (hEV:∀ r,Hom EV (EP P Gl) r) {r : β} {inl:Nat→List AV→List AObj→(AV→List AObj→Option β)→Option β} {f:Nat} {args:List AV} {H:List AObj}
  {kO:AV→List AObj→Option β} {kP:AV→List AObj→Prop} (hk:∀ v H',kO v H'=some r→kP v H') (hinl:inl f args H kO=some r→Xf P Gl f args H kP) (he:Qon kn EV inl f args H kO=some r):Xf P Gl f args H kP:=by
 unfold Qon at he;split at he
 ·rename_i pa h1;split at he
  ·rename_i x h2;exact Q21 (Jb hkn (hEV x) h2) (Jq args pa h1) (hk _ _ he)
  exact hinl he
 split at he
 ·rename_i pa h1;split at he
  ·rename_i x h2;split at he
   ·rename_i h3;have q:=Q1n args pa h1;exact Qda (Jb hkn (hEV x) h2) ⟨q.1,fun i v x hv hx=>Qan (fun a o _ ho=>⟨trivial,ho⟩) (q.2 i v x hv hx)⟩ h3 (hk _ _ he)
   exact hinl he
  exact hinl he
 ·split at he
  ·rename_i a rest _ _;split at he
   ·rename_i pr h1;split at he
    ·rename_i cs ha;split at he
     ·rename_i cells hc;split at he
      ·split at he
       ·rename_i x cells' h2;exact Q9t (Q7z hkn (hEV _) h2) (by rw [ha,Qfi _ _ hc]) (Jq rest pr h1) (hk _ _ he)
       exact hinl he
      exact hinl he
     exact hinl he
    exact hinl he
   exact hinl he
  ·exact hinl he

theorem Qin (hkn:KnowOk2 P Gl kn) {β:Type} {EA:Env (Option AV)} (hEA:∀ r,Hom EA (EP P Gl) r) {r : β} {f:Nat} {args:List AV} {H:List AObj} {R:List Nat}
  {kO:AV→List AObj→List Nat→List Nat→Option β} {kP:AV→List AObj→List Nat→List Nat→Prop} (hk:∀ v H' R A,kO v H' R A=some r→kP v H' R A) {z:Unit→Option β} (hz:z ()=some r→Vh P Gl f args H kP) (he:Qld none z kn EA f args H R kO=some r):Vh P Gl f args H kP:=by
 unfold Qld at he;split at he
 ·rename_i v hv;unfold Qr3 at hv;split at hv
  ·rename_i h1;split at hv
   ·rename_i h2;split at hv
    ·rename_i cf hcf;split at he
     ·rename_i hr
      have hc:Xf P Gl f args (Qd5 R H) (fun v0 H'=>v0=v∧∃ rest,H'=Qd5 R H++rest):=Zf (hkn.tab f cf hcf) (Q24 (hEA v) (fun v0 H' h=>by
       split at h
       ·rename_i hp;cases h;exact ⟨rfl,Qhk _ _ hp⟩
       cases h) hv)
      refine Qf8 R h1 hr (fun a ha o ho=>?_) hc (hk _ _ _ _ he);have:=Lx.1 h2 a ha;rw [ho] at this;exact this
     exact hz he
    cases hv
   cases hv
  cases hv
 exact hz he
theorem Gj (hkn:KnowOk2 P Gl kn) {β:Type} {EA:Env (Option AV)} (hEA:∀ r,Hom EA (EP P Gl) r) {r : β} {f:Nat} {args:List AV} {H:List AObj}
  {kO:AV→List AObj→List Nat→List Nat→Option β} {kP:AV→List AObj→List Nat→List Nat→Prop} (hk:∀ v H' R A,kO v H' R A=some r→kP v H' R A) {z:Unit→Option β} (hz:z ()=some r→Vh P Gl f args H kP) (he:Q6t none z kn EA f args H kO=some r):Vh P Gl f args H kP:=by
 unfold Q6t at he;split at he
 ·rename_i v hv;unfold Qqj at hv;split at hv
  ·rename_i h1;split at hv
   ·rename_i cf hcf;split at he
    ·rename_i hr;have hc:Xf P Gl f args (List.replicate H.length .dead) (fun v0 _=>v0=v):=Zf (hkn.tab f cf hcf) (Q24 (hEA v) (fun v0 H' h=>by cases h;rfl) hv);exact .inl ⟨[],[],v,fun s h=>(by cases h),fun H2 _=>Q7g (Qi4 h1 hr hc H2) (fun v' H' ⟨e1,e2⟩=>⟨e1,e2⟩),hk _ _ _ _ he⟩
    exact hz he
   cases hv
  cases hv
 exact Qin hkn hEA hk hz he
theorem Qdl (hkn:KnowOk2 P Gl kn) {β:Type} {EV:Env (Option PV)} (hEV:∀ r,Hom EV (EP P Gl) r) {EA:Env (Option AV)} (hEA:∀ r,Hom EA (EP P Gl) r) {r : β} {f:Nat} {args:List AV} {H:List AObj}
  {kO:AV→List AObj→List Nat→List Nat→Option β} {kP:AV→List AObj→List Nat→List Nat→Prop} (hk:∀ v H' R A,kO v H' R A=some r→kP v H' R A) (he:Qoe none kn EV EA f args H kO=some r):Vh P Gl f args H kP:=by
 unfold Qoe at he;split at he
 ·rename_i pa h1;split at he
  ·rename_i x h2;have hp:=Jb hkn (hEV x) h2;exact .inl ⟨[],[],.p x,fun s h=>(by cases h),fun H2 _=>Q21 hp (Jq args pa h1) ⟨rfl,rfl⟩,hk _ _ _ _ he⟩
  cases he
 split at he
 ·rename_i pa h1;split at he
  ·rename_i x h2;split at he
   ·rename_i h3;have q:=Q1n args pa h1;have hp:=Jb hkn (hEV x) h2;exact .inl ⟨Q52 H args,[],.p x,fun s h=>(by cases h),fun H2 hH2=>Qda hp ⟨q.1,fun i v x hv hx=>Qan (fun a o hk ho=>⟨trivial,hH2 a hk o ho⟩) (q.2 i v x hv hx)⟩ h3 ⟨rfl,rfl⟩,hk _ _ _ _ he⟩
   refine Gj hkn hEA hk (fun hz=>?_) he;split at hz
   ·rename_i hR;have q:=Q1n args pa h1;have hp:=Jb hkn (hEV x) h2;exact Qis _ hp q (fun a ha=>by simpa using Lx.1 hR a ha) (hk _ _ _ _ hz)
   cases hz
  exact Gj hkn hEA hk (fun h=>by cases h) he
 ·split at he
  ·rename_i a rest _ _;split at he
   ·rename_i pr h1;split at he
    ·rename_i cs ha;split at he
     ·rename_i cells hc;split at he
      ·rename_i x cells' h2;have hm:=Q7z hkn (hEV _) h2;refine .inl ⟨[a],[(a,.cells (cells'.map .p))],.p x,fun s hs=>?_,fun H2 hH2=>?_,hk _ _ _ _ he⟩
       ·simp at hs;subst hs;exact (La.1 ha).1
       refine Q9t hm ?_ (Jq rest pr h1) ⟨rfl,rfl⟩;rw [hH2 a (by simp) _ ha,Qfi _ _ hc]
      exact Gj hkn hEA hk (fun h=>by cases h) he
     exact Gj hkn hEA hk (fun h=>by cases h) he
    exact Gj hkn hEA hk (fun h=>by cases h) he
   exact Gj hkn hEA hk (fun h=>by cases h) he
  ·exact Gj hkn hEA hk (fun h=>by cases h) he

theorem Q8w:∀ (cs:List COper) (j:Nat),cs=(Q44 j cs).1++(Q44 j cs).2∧Qih (j+(Q44 j cs).1.length) (Q44 j cs).2=true
 | [],j=>⟨rfl,rfl⟩
 | c::r,j=>by
  simp only [Q44];split
  ·rename_i ht;exact ⟨rfl,ht⟩
  obtain ⟨h1,h2⟩:=Q8w r (j+1);refine ⟨by simp only [Bg];rw [← h1],?_⟩;rw [Lq,show j+((Q44 (j+1) r).1.length+1)=j+1+(Q44 (j+1) r).1.length by omega];exact h2
theorem Qgw (hkn:KnowOk2 P Gl kn) (N:Nat):∀ (d:Nat) (β:Type) (r : β),Hom (Qbv kn Gl N d β) (EP P Gl) r
 | 0,β,r=>⟨rfl,rfl,fun f a H kO kP hk he=>(by simp only [Qbv] at he;cases he),fun b tm H kO kP hk he=>(by simp only [Qbv] at he;cases he),fun a b tm H kO kP hk he=>(by simp only [Qbv] at he;cases he),fun b tm H kO kP hk he=>(by simp only [Qbv] at he;cases he)⟩
 | d+1,β,r=>by
  have ih:=Qgw hkn N d;refine ⟨rfl,rfl,fun f a H kO kP hk he=>?_,fun b tm H kO kP hk he=>?_,fun a b tm H kO kP hk he=>?_,fun ops tm H kO kP hk he=>?_⟩
  ·simp only [Qbv] at he;refine Qj9 hkn (ih PV) hk (fun he=>?_) he
   cases ht:kn.tab f with
   | none=>simp only [ht] at he;cases he
   | some cf=>
    simp only [ht] at he;exact Zf (hkn.tab f cf ht) (Q24 (ih β r) hk he)
  ·simp only [Qbv] at he;exact Q5b N (Qde (ih β r) hk N tm H he)
  ·simp only [Qbv] at he;refine Qmn (Q64 (ih β r) a tm H _ _ (fun e v H' hv=>?_) he)
   cases e with
   | normal=>exact Q64 (ih β r) b v H' kO kP hk hv
   | exit i=>exact hk _ _ _ hv
   | ret=>exact hk _ _ _ hv
  ·simp only [Qbv] at he;obtain ⟨h1,h2⟩:=Q8w ops 0;rw [Me] at h2;generalize (Q44 0 ops).1=pre at he h1 h2;generalize (Q44 0 ops).2=suf at he h1 h2;subst h1
   cases suf with
   | nil=>
    rw [Nq];exact Qv (Q4i (dP:=Vh P Gl) (ih β r) (fun f a H kO kP hk he=>Qdl hkn (ih PV) (ih AV) hk he) hk pre tm H 0 [] he)
   | cons c0 suf=>exact Qk9 h2 (Q4i (dP:=Vh P Gl) (ih β r) (fun f a H kO kP hk he=>Qdl hkn (ih PV) (ih AV) hk he) (fun tm' H' hv=>Q68 (ih β r) hk _ tm' H' hv) pre tm H 0 [] he)

theorem Q47 (hkn:KnowOk2 P Gl kn) {N d:Nat} {f:Nat} {args:List PV} {r:PV} (h:Q8x kn (Qbv kn Gl N d PV) f args=some r):Qg6 P Gl f args r:=
 Jb hkn (Qgw hkn N d PV r) h
end
end
end Go.Av
