/- Part of FromsnNames: the law returns true; no condition. -/
import Derived.Test.YtfgpphgmjcnleaaGreatDoorAvClosed
import Derived.Test.YtfgpphgmjcnleaaGreatDoorAvDrawt
import Derived.Test.YtfgpphgmjcnleaaGreatDoorAvMeth
import Derived.Test.YtfgpphgmjcnleaaGreatDoorAvLook
import Derived.Test.YtfgpphgmjcnleaaGreatDoorAvFrame
set_option linter.all false
namespace Go.Av
noncomputable section

structure Know2 where
 tab:Nat->Option CFunc
 known:Nat->List PV->Option PV
 meth:Nat->List PV->List PV->Option PV

def Qpm (r:PV) (cells:List PV):PV := .tuple [r,.agg cells]

def Qgq:List AObj->AV->Option PV
 | .cells cs::rest,v=>match Q96 (.dead::rest) cs with
  | some ps=>match Qju Qr4 (.dead::rest) v with
   | some r=>some (Qpm r ps)
   | none=>none
  | none=>none
 | _,_=>none

def Q4y (kn:Know2) (E:Env (Option PV)) (f:Nat) (args:List PV):Option PV:=match kn.known f args with
 | some r=>some r
 | none=>match kn.tab f with
  | some cf=>Q54 .p args fun args=>Q00 E cf args [] (fun v H=>Qju Qr4 H v)
  | none=>none
def Qe5 (kn:Know2) (E:Env (Option PV)) (f:Nat) (cells args:List PV):Option PV:=match kn.meth f cells args with
 | some r=>some r
 | none=>match kn.tab f with
  | some cf=>Q54 .p args fun args=>Q54 .p cells fun cells=>Q00 E cf (.ptr 0 0::args) [.cells cells] (fun v H=>Qgq H v)
  | none=>none

def Qq4:List AV->Option (List PV)
 | []=>some []
 | .p x::r=>match Qq4 r with
  | some ps=>some (x::ps)
  | none=>none
 | _::_=>none
theorem Qdb:∀ (cs:List AV) (ps:List PV),Qq4 cs=some ps->cs=ps.map .p
 | [],ps,h=>by simp only [Qq4] at h;cases h;rfl
 | c::cs,ps,h=>by
  cases c<;>simp only [Qq4] at h<;>try (cases h;done)
  split at h
  ·rename_i x ps' h1;cases h;rw [Qdb cs ps' h1];rfl
  cases h
def Qdf:List PV->Bool
 | []=>true
 | .int _ _::r=>Qdf r
 | .bool _::r=>Qdf r
 | .str _::r=>Qdf r
 | _::_=>false
def Qo7 {α:Type} (kn:Know2) (EV:Env (Option PV)) (inl:Nat->List AV->List AObj->(AV->List AObj->α)->α) (f:Nat) (args:List AV) (H:List AObj) (k:AV->List AObj->α) : α:=
 match AV.toPVs args with
 | some pa=>match Q4y kn EV f pa with
  | some r=>k (.p r) H
  | none=>inl f args H k
 | none=>match Q96 H args with
  | some pa=>match Q4y kn EV f pa with
   | some r=>match Wf r with
    | true=>k (.p r) H
    | false=>inl f args H k
   | none=>inl f args H k
  | none=>match args with
  | .ptr a 0::rest=>match AV.toPVs rest with
   | some pr=>match H[a]? with
    | some (.cells cs)=>match Qq4 cs with
     | some cells=>match Qdf cells with
      | true=>match Qe5 kn EV f cells pr with
       | some (.tuple [r,.agg cells'])=>k (.p r) (H.set a (.cells (cells'.map .p)))
       | _=>inl f args H k
      | false=>inl f args H k
     | none=>inl f args H k
    | _=>inl f args H k
   | none=>inl f args H k
  | _=>inl f args H k
def Qsu (kn:Know2) (EA:Env (Option AV)) (f:Nat) (args:List AV) (n:Nat):Option AV:=match refsLt.refsLts n args with
 | true=>match kn.tab f with
  | some cf=>Q00 EA cf args (List.replicate n .dead) (fun v _=>some v)
  | none=>none
 | false=>none
def Qsh (kn:Know2) (EA:Env (Option AV)) (f:Nat) (args:List AV) (H:List AObj) (R:List Nat):Option AV:=match refsLt.refsLts H.length args with
 | true=>match R.all (fun a=>match H[a]? with | some o=>Yn H.length o | none=>true) with
  | true=>match kn.tab f with
   | some cf=>Q00 EA cf args (Qdx R H) (fun v H'=>match Qlj (Qdx R H) H' with
    | true=>some v
    | false=>none)
   | none=>none
  | false=>none
 | false=>none
def Qkb (R:List Nat):List (Nat×AObj):=R.map fun a=>(a,.dead)
def Qle {α:Type} (fail : α) (z:Unit->α) (kn:Know2) (EA:Env (Option AV)) (f:Nat) (args:List AV) (H:List AObj) (R:List Nat) (k:AV->List AObj->List Nat->List Nat->α) : α:=match Qsh kn EA f args H R with
 | some v=>match refsLt H.length v with
  | true=>k v H R []
  | false=>z ()
 | none=>z ()
def Gz {α:Type} (fail : α) (z:Unit->α) (kn:Know2) (EA:Env (Option AV)) (f:Nat) (args:List AV) (H:List AObj) (k:AV->List AObj->List Nat->List Nat->α) : α:=match Qsu kn EA f args H.length with
 | some v=>match refsLt H.length v with
  | true=>k v H [] []
  | false=>z ()
 | none=>Qle fail z kn EA f args H (args.flatMap (Qdi 12 H)) k
def Qq5 {α:Type} (fail : α) (kn:Know2) (EV:Env (Option PV)) (EA:Env (Option AV)) (f:Nat) (args:List AV) (H:List AObj) (k:AV->List AObj->List Nat->List Nat->α) : α:=
 match AV.toPVs args with
 | some pa=>match Q4y kn EV f pa with
  | some r=>k (.p r) H [] []
  | none=>fail
 | none=>match Q96 H args with
  | some pa=>match Q4y kn EV f pa with
   | some r=>match Wf r with
    | true=>k (.p r) H (Jz H args) []
    | false=>Gz fail (fun _=>match (Jz H args).all (fun a=>Nat.blt a H.length) with
     | true=>k (.p r) (J7 (Qkb (Jz H args)) H) (Jz H args) (Jz H args)
     | false=>fail) kn EA f args H k
   | none=>Gz fail (fun _=>fail) kn EA f args H k
  | none=>match args with
  | .ptr a 0::rest=>match AV.toPVs rest with
   | some pr=>match H[a]? with
    | some (.cells cs)=>match Qq4 cs with
     | some cells=>match Qe5 kn EV f cells pr with
      | some (.tuple [r,.agg cells'])=>k (.p r) (H.set a (.cells (cells'.map .p))) [a] [a]
      | _=>Gz fail (fun _=>fail) kn EA f args H k
     | none=>Gz fail (fun _=>fail) kn EA f args H k
    | _=>Gz fail (fun _=>fail) kn EA f args H k
   | none=>Gz fail (fun _=>fail) kn EA f args H k
  | _=>Gz fail (fun _=>fail) kn EA f args H k

def Gy:Nat->List COper->List COper×List COper
 | _,[]=>([],[])
 | j,c::r=>match Qar j (c::r) with
  | true=>([],c::r)
  | false=>match Gy (j+1) r with
   | (a,b)=>(c::a,b)
def Qcm (kn:Know2) (Gl:Nat->Option (List PV)) (N:Nat):Nat->(β:Type)->Env (Option β)
 | 0,_ => { fail:=none,cmp:=⟨Q6,rfl⟩,scmp:=⟨Q31,rfl⟩,glob:=Gl,call:=fun _ _ _ _=>none,loop:=fun _ _ _ _=>none,join:=fun _ _ _ _ _=>none,draw:=fun _ _ _ _=>none }
 | d+1,β=>Env.mk none ⟨Q6,rfl⟩ ⟨Q31,rfl⟩ Gl
   (Qo7 kn (Qcm kn Gl N d PV) fun f args H k=>match kn.tab f with
     | some cf=>Q00 (Qcm kn Gl N d β) cf args H k
     | none=>none)
   (fun b tm H k=>Qfl (Qcm kn Gl N d β) b N tm H k)
   (fun a b tm H k=>ev (Qcm kn Gl N d β) a tm H fun e tm H=>match e with
    | .normal=>ev (Qcm kn Gl N d β) b tm H k
    | .exit i=>k (.exit i) tm H
    | .ret=>k .ret tm H)
   (fun ops tm H k=>match Gy 0 ops with
    | (pre,suf)=>Zk (Qcm kn Gl N d β) (Qq5 none kn (Qcm kn Gl N d PV) (Qcm kn Gl N d AV)) (fun tm H=>Zc (Qcm kn Gl N d β) k suf tm H) pre tm H 0 [])
section
variable {P:Program} {Gl:Nat->Option (List PV)} {kn:Know2}

structure KnowOk2 (P:Program) (Gl:Nat->Option (List PV)) (kn:Know2):Prop where
 tab:∀ f cf,kn.tab f=some cf->Jy P f cf=true
 known:∀ f args r,kn.known f args=some r->Q5r P Gl f args r
 meth:∀ f cells args r,kn.meth f cells args=some r->∃ x cs',r=Qpm x cs'∧Qrx P Gl f cells args x cs'

theorem Yx (hkn:KnowOk2 P Gl kn) {E:Env (Option PV)} {f:Nat} {args:List PV} {r:PV} (hE:Hom E (EP P Gl) r) (h:Q4y kn E f args=some r):Q5r P Gl f args r:=by
 unfold Q4y at h
 cases hk:kn.known f args with
 | some x=>rw [hk] at h;cases h;exact hkn.known f args _ hk
 | none=>
  simp only [hk] at h
  cases ht:kn.tab f with
  | none=>simp only [ht] at h;cases h
  | some cf=>
   simp only [ht,Zu] at h;exact Q2 (hkn.tab f cf ht) (Jq hE (fun v H hv=>Q7p (fun _ _ _ ho=>⟨trivial,ho⟩) (Q6w Qr4 v r hv)) h)

theorem Qmt {H1 H2:List AObj} {K1 K2:Nat->Prop} (h:∀ a o,K1 a->H1[a]? = some o->o ≠ .dead->K2 a∧H2[a]? = some o) {v:AV} {x:PV} (hf:Frz K1 H1 v x):Frz K2 H2 v x:=by
 induction hf with
 | p x=>exact .p x
 | nil esz=>exact .nil esz
 | zero esz=>exact .zero esz
 | slice esz a off len cs rows hk ho hl hr hn hv ih=>
  obtain ⟨k1,k2⟩:=h a _ hk ho (by simp);exact .slice esz a off len cs rows k1 k2 hl hr hn ih
 | agg cs ps hn _ ih=>exact .agg cs ps hn ih
 | tuple cs ps hn _ ih=>exact .tuple cs ps hn ih
 | func fn a b a' b' n1 _ n2 _ ih1 ih2=>exact .func fn a b a' b' n1 ih1 n2 ih2
 | iface t v x _ ih=>exact .iface t v x ih
 | map r es ps hk ho hn hkk _ ih=>
  obtain ⟨k1,k2⟩:=h r _ hk ho (by simp);exact .map r es ps k1 k2 hn hkk ih

theorem Qfa {H:List AObj} {v:AV} {x:PV} (h:Qgq H v=some x):∃ r cs',x=Qpm r cs'∧∃ cs rest,H = .cells cs::rest∧FrzL (fun a=>a≠0) H cs cs'∧Frz (fun a=>a≠0) H v r:=by
 unfold Qgq at h;split at h
 ·rename_i cs rest;split at h
  ·rename_i ps h1;split at h
   ·rename_i r h2;cases h
    have key:∀ {K:Nat->Prop} {v:AV} {x:PV},Frz K (AObj.dead::rest) v x->Frz (fun a=>a≠0) (AObj.cells cs::rest) v x:=by
     intro K v x hf;refine Qmt (fun a o _ ho hc=>?_) hf
     cases a with
     | zero=>simp at ho;exact absurd ho.symm hc
     | succ a=>exact ⟨by simp,by simpa using ho⟩
    have q:=Uj _ _ h1;exact ⟨r,ps,rfl,cs,rest,rfl,⟨q.1,fun i v x hv hx=>key (q.2 i v x hv hx)⟩,key (Q6w Qr4 _ _ h2)⟩
   cases h
  cases h
 ·cases h

theorem Q3h (hkn:KnowOk2 P Gl kn) {E:Env (Option PV)} {f:Nat} {cells args:List PV} {x:PV} {cs':List PV} (hE:Hom E (EP P Gl) (Qpm x cs')) (h:Qe5 kn E f cells args=some (Qpm x cs')):Qrx P Gl f cells args x cs':=by
 unfold Qe5 at h
 cases hk:kn.meth f cells args with
 | some y=>
  rw [hk] at h;cases h;obtain ⟨y,cs'',e,q⟩:=hkn.meth f cells args _ hk;simp only [Qpm,PV.tuple.injEq,List.cons.injEq,PV.agg.injEq,and_true] at e;obtain ⟨rfl,rfl⟩:=e;exact q
 | none=>
  simp only [hk] at h
  cases ht:kn.tab f with
  | none=>simp only [ht] at h;cases h
  | some cf=>
   simp only [ht,Zu] at h;refine Qjp (hkn.tab f cf ht) (Jq hE (fun v H hv=>?_) h);obtain ⟨y',cs'',e,q⟩:=Qfa hv;simp only [Qpm,PV.tuple.injEq,List.cons.injEq,PV.agg.injEq,and_true] at e;obtain ⟨rfl,rfl⟩:=e;exact q

theorem Qf9 (hkn:KnowOk2 P Gl kn) {β:Type} {EV:Env (Option PV)} (hEV:∀ r,Hom EV (EP P Gl) r) {r : β} {inl:Nat->List AV->List AObj->(AV->List AObj->Option β)->Option β} {f:Nat} {args:List AV} {H:List AObj}
  {kO:AV->List AObj->Option β} {kP:AV->List AObj->Prop} (hk:∀ v H',kO v H'=some r->kP v H') (hinl:inl f args H kO=some r->Q8 P Gl f args H kP) (he:Qo7 kn EV inl f args H kO=some r):Q8 P Gl f args H kP:=by
 unfold Qo7 at he;split at he
 ·rename_i pa h1;split at he
  ·rename_i x h2;exact Y1 (Yx hkn (hEV x) h2) (Vf args pa h1) (hk _ _ he)
  exact hinl he
 split at he
 ·rename_i pa h1;split at he
  ·rename_i x h2;split at he
   ·rename_i h3;have q:=Uj args pa h1;exact Q5x (Yx hkn (hEV x) h2) ⟨q.1,fun i v x hv hx=>Q7p (fun a o _ ho=>⟨trivial,ho⟩) (q.2 i v x hv hx)⟩ h3 (hk _ _ he)
   exact hinl he
  exact hinl he
 ·split at he
  ·rename_i a rest _ _;split at he
   ·rename_i pr h1;split at he
    ·rename_i cs ha;split at he
     ·rename_i cells hc;split at he
      ·split at he
       ·rename_i x cells' h2;exact Q9d (Q3h hkn (hEV _) h2) (by rw [ha,Qdb _ _ hc]) (Vf rest pr h1) (hk _ _ he)
       exact hinl he
      exact hinl he
     exact hinl he
    exact hinl he
   exact hinl he
  ·exact hinl he

theorem Qj5 (hkn:KnowOk2 P Gl kn) {β:Type} {EA:Env (Option AV)} (hEA:∀ r,Hom EA (EP P Gl) r) {r : β} {f:Nat} {args:List AV} {H:List AObj} {R:List Nat}
  {kO:AV->List AObj->List Nat->List Nat->Option β} {kP:AV->List AObj->List Nat->List Nat->Prop} (hk:∀ v H' R A,kO v H' R A=some r->kP v H' R A) {z:Unit->Option β} (hz:z ()=some r->Qv P Gl f args H kP) (he:Qle none z kn EA f args H R kO=some r):Qv P Gl f args H kP:=by
 unfold Qle at he;split at he
 ·rename_i v hv;unfold Qsh at hv;split at hv
  ·rename_i h1;split at hv
   ·rename_i h2;split at hv
    ·rename_i cf hcf;split at he
     ·rename_i hr
      have hc:Q8 P Gl f args (Qdx R H) (fun v0 H'=>v0=v∧∃ rest,H'=Qdx R H++rest):=Q3 (hkn.tab f cf hcf) (Jq (hEA v) (fun v0 H' h=>by
       split at h
       ·rename_i hp;cases h;exact ⟨rfl,Qgx _ _ hp⟩
       cases h) hv)
      refine Q0g R h1 hr (fun a ha o ho=>?_) hc (hk _ _ _ _ he);have:=Lp.1 h2 a ha;rw [ho] at this;exact this
     exact hz he
    cases hv
   cases hv
  cases hv
 exact hz he
theorem Yq (hkn:KnowOk2 P Gl kn) {β:Type} {EA:Env (Option AV)} (hEA:∀ r,Hom EA (EP P Gl) r) {r : β} {f:Nat} {args:List AV} {H:List AObj}
  {kO:AV->List AObj->List Nat->List Nat->Option β} {kP:AV->List AObj->List Nat->List Nat->Prop} (hk:∀ v H' R A,kO v H' R A=some r->kP v H' R A) {z:Unit->Option β} (hz:z ()=some r->Qv P Gl f args H kP) (he:Gz none z kn EA f args H kO=some r):Qv P Gl f args H kP:=by
 unfold Gz at he;split at he
 ·rename_i v hv;unfold Qsu at hv;split at hv
  ·rename_i h1;split at hv
   ·rename_i cf hcf;split at he
    ·rename_i hr;have hc:Q8 P Gl f args (List.replicate H.length .dead) (fun v0 _=>v0=v):=Q3 (hkn.tab f cf hcf) (Jq (hEA v) (fun v0 H' h=>by cases h;rfl) hv);exact .inl ⟨[],[],v,fun s h=>(by cases h),fun H2 _=>Qo (Qby h1 hr hc H2) (fun v' H' ⟨e1,e2⟩=>⟨e1,e2⟩),hk _ _ _ _ he⟩
    exact hz he
   cases hv
  cases hv
 exact Qj5 hkn hEA hk hz he
theorem Qep (hkn:KnowOk2 P Gl kn) {β:Type} {EV:Env (Option PV)} (hEV:∀ r,Hom EV (EP P Gl) r) {EA:Env (Option AV)} (hEA:∀ r,Hom EA (EP P Gl) r) {r : β} {f:Nat} {args:List AV} {H:List AObj}
  {kO:AV->List AObj->List Nat->List Nat->Option β} {kP:AV->List AObj->List Nat->List Nat->Prop} (hk:∀ v H' R A,kO v H' R A=some r->kP v H' R A) (he:Qq5 none kn EV EA f args H kO=some r):Qv P Gl f args H kP:=by
 unfold Qq5 at he;split at he
 ·rename_i pa h1;split at he
  ·rename_i x h2;have hp:=Yx hkn (hEV x) h2;exact .inl ⟨[],[],.p x,fun s h=>(by cases h),fun H2 _=>Y1 hp (Vf args pa h1) ⟨rfl,rfl⟩,hk _ _ _ _ he⟩
  cases he
 split at he
 ·rename_i pa h1;split at he
  ·rename_i x h2;split at he
   ·rename_i h3;have q:=Uj args pa h1;have hp:=Yx hkn (hEV x) h2;exact .inl ⟨Jz H args,[],.p x,fun s h=>(by cases h),fun H2 hH2=>Q5x hp ⟨q.1,fun i v x hv hx=>Q7p (fun a o hk ho=>⟨trivial,hH2 a hk o ho⟩) (q.2 i v x hv hx)⟩ h3 ⟨rfl,rfl⟩,hk _ _ _ _ he⟩
   refine Yq hkn hEA hk (fun hz=>?_) he;split at hz
   ·rename_i hR;have q:=Uj args pa h1;have hp:=Yx hkn (hEV x) h2;exact Qbk _ hp q (fun a ha=>by simpa using Lp.1 hR a ha) (hk _ _ _ _ hz)
   cases hz
  exact Yq hkn hEA hk (fun h=>by cases h) he
 ·split at he
  ·rename_i a rest _ _;split at he
   ·rename_i pr h1;split at he
    ·rename_i cs ha;split at he
     ·rename_i cells hc;split at he
      ·rename_i x cells' h2;have hm:=Q3h hkn (hEV _) h2;refine .inl ⟨[a],[(a,.cells (cells'.map .p))],.p x,fun s hs=>?_,fun H2 hH2=>?_,hk _ _ _ _ he⟩
       ·simp at hs;subst hs;exact (La.1 ha).1
       refine Q9d hm ?_ (Vf rest pr h1) ⟨rfl,rfl⟩;rw [hH2 a (by simp) _ ha,Qdb _ _ hc]
      exact Yq hkn hEA hk (fun h=>by cases h) he
     exact Yq hkn hEA hk (fun h=>by cases h) he
    exact Yq hkn hEA hk (fun h=>by cases h) he
   exact Yq hkn hEA hk (fun h=>by cases h) he
  ·exact Yq hkn hEA hk (fun h=>by cases h) he

theorem Q5q:∀ (cs:List COper) (j:Nat),cs=(Gy j cs).1++(Gy j cs).2∧Qar (j+(Gy j cs).1.length) (Gy j cs).2=true
 | [],j=>⟨rfl,rfl⟩
 | c::r,j=>by
  simp only [Gy];split
  ·rename_i ht;exact ⟨rfl,ht⟩
  obtain ⟨h1,h2⟩:=Q5q r (j+1);refine ⟨by simp only [Nx];rw [← h1],?_⟩;rw [Mo,show j+((Gy (j+1) r).1.length+1)=j+1+(Gy (j+1) r).1.length by omega];exact h2
theorem Qi7 (hkn:KnowOk2 P Gl kn) (N:Nat):∀ (d:Nat) (β:Type) (r : β),Hom (Qcm kn Gl N d β) (EP P Gl) r
 | 0,β,r=>⟨rfl,rfl,fun f a H kO kP hk he=>(by simp only [Qcm] at he;cases he),fun b tm H kO kP hk he=>(by simp only [Qcm] at he;cases he),fun a b tm H kO kP hk he=>(by simp only [Qcm] at he;cases he),fun b tm H kO kP hk he=>(by simp only [Qcm] at he;cases he)⟩
 | d+1,β,r=>by
  have ih:=Qi7 hkn N d;refine ⟨rfl,rfl,fun f a H kO kP hk he=>?_,fun b tm H kO kP hk he=>?_,fun a b tm H kO kP hk he=>?_,fun ops tm H kO kP hk he=>?_⟩
  ·simp only [Qcm] at he;refine Qf9 hkn (ih PV) hk (fun he=>?_) he
   cases ht:kn.tab f with
   | none=>simp only [ht] at he;cases he
   | some cf=>
    simp only [ht] at he;exact Q3 (hkn.tab f cf ht) (Jq (ih β r) hk he)
  ·simp only [Qcm] at he;exact Qk N (Qab (ih β r) hk N tm H he)
  ·simp only [Qcm] at he;refine Qdt (Q38 (ih β r) a tm H _ _ (fun e v H' hv=>?_) he)
   cases e with
   | normal=>exact Q38 (ih β r) b v H' kO kP hk hv
   | exit i=>exact hk _ _ _ hv
   | ret=>exact hk _ _ _ hv
  ·simp only [Qcm] at he;obtain ⟨h1,h2⟩:=Q5q ops 0;rw [Lv] at h2;generalize (Gy 0 ops).1=pre at he h1 h2;generalize (Gy 0 ops).2=suf at he h1 h2;subst h1
   cases suf with
   | nil=>
    rw [Mv];exact Qa (Jp (dP:=Qv P Gl) (ih β r) (fun f a H kO kP hk he=>Qep hkn (ih PV) (ih AV) hk he) hk pre tm H 0 [] he)
   | cons c0 suf=>exact Q9x h2 (Jp (dP:=Qv P Gl) (ih β r) (fun f a H kO kP hk he=>Qep hkn (ih PV) (ih AV) hk he) (fun tm' H' hv=>Q1u (ih β r) hk _ tm' H' hv) pre tm H 0 [] he)

theorem Q85 (hkn:KnowOk2 P Gl kn) {N d:Nat} {f:Nat} {args:List PV} {r:PV} (h:Q4y kn (Qcm kn Gl N d PV) f args=some r):Q5r P Gl f args r:=
 Yx hkn (Qi7 hkn N d PV r) h
end
end
end Go.Av
