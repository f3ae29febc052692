/- Part of FrommqttCalls: the law returns true; no condition. -/
import Derived.Test.YtbcddiagcaddbaaGreatDoorAvClosed2
import Derived.Test.YtbcddiagcaddbaaGreatDoorAvDrawt
import Derived.Test.YtbcddiagcaddbaaGreatDoorAvMeth
import Derived.Test.YtbcddiagcaddbaaGreatDoorAvLook
import Derived.Test.YtbcddiagcaddbaaGreatDoorAvFrame
import Derived.Test.YtbcddiagcaddbaaGreatDoorAvEq
set_option linter.all false
namespace Go.Av
noncomputable section

structure Know2 where
 tab:Nat->Option CFunc
 known:Nat->List PV->Option PV
 meth:Nat->List PV->List PV->Option PV

def Z3c (r:PV) (cells:List PV):PV := .tuple [r,.agg cells]

def Qqa:List AObj->AV->Option PV
 | .cells cs::rest,v=>match Qn4 (.dead::rest) cs with
  | some ps=>match Qtb Z2i (.dead::rest) v with
   | some r=>some (Z3c r ps)
   | none=>none
  | none=>none
 | _,_=>none

def Qjb (kn:Know2) (E:Env (Option PV)) (f:Nat) (args:List PV):Option PV:=match kn.known f args with
 | some r=>some r
 | none=>match kn.tab f with
  | some cf=>Qe9 .p args fun args=>Q96 E cf args [] (fun v H=>Qtb Z2i H v)
  | none=>none
def Qs9 (kn:Know2) (E:Env (Option PV)) (f:Nat) (cells args:List PV):Option PV:=match kn.meth f cells args with
 | some r=>some r
 | none=>match kn.tab f with
  | some cf=>Qe9 .p args fun args=>Qe9 .p cells fun cells=>Q96 E cf (.ptr 0 0::args) [.cells cells] (fun v H=>Qqa H v)
  | none=>none

def Z4k:List AV->Option (List PV)
 | []=>some []
 | .p x::r=>match Z4k r with
  | some ps=>some (x::ps)
  | none=>none
 | _::_=>none
theorem Qr2:∀ (cs:List AV) (ps:List PV),Z4k cs=some ps->cs=ps.map .p
 | [],ps,h=>by simp only [Z4k] at h;cases h;rfl
 | c::cs,ps,h=>by
  cases c<;>simp only [Z4k] at h<;>try (cases h;done)
  split at h
  ·rename_i x ps' h1;cases h;rw [Qr2 cs ps' h1];rfl
  cases h
def Qmm:List PV->Bool
 | []=>true
 | .int _ _::r=>Qmm r
 | .bool _::r=>Qmm r
 | .str _::r=>Qmm r
 | _::_=>false
def Z3u {α:Type} (kn:Know2) (EV:Env (Option PV)) (inl:Nat->List AV->List AObj->(AV->List AObj->α)->α) (f:Nat) (args:List AV) (H:List AObj) (k:AV->List AObj->α) : α:=
 match AV.toPVs args with
 | some pa=>match Qjb kn EV f pa with
  | some r=>k (.p r) H
  | none=>inl f args H k
 | none=>match Qn4 H args with
  | some pa=>match Qjb kn EV f pa with
   | some r=>match Q8m r with
    | true=>k (.p r) H
    | false=>inl f args H k
   | none=>inl f args H k
  | none=>match args with
  | .ptr a 0::rest=>match AV.toPVs rest with
   | some pr=>match H[a]? with
    | some (.cells cs)=>match Z4k cs with
     | some cells=>match Qmm cells with
      | true=>match Qs9 kn EV f cells pr with
       | some (.tuple [r,.agg cells'])=>k (.p r) (H.set a (.cells (cells'.map .p)))
       | _=>inl f args H k
      | false=>inl f args H k
     | none=>inl f args H k
    | _=>inl f args H k
   | none=>inl f args H k
  | _=>inl f args H k
def Z4r (kn:Know2) (EA:Env (Option AV)) (f:Nat) (args:List AV) (n:Nat):Option AV:=match refsLt.refsLts n args with
 | true=>match kn.tab f with
  | some cf=>Q96 EA cf args (List.replicate n .dead) (fun v _=>some v)
  | none=>none
 | false=>none
def Z78 (kn:Know2) (EA:Env (Option AV)) (f:Nat) (args:List AV) (H:List AObj) (R:List Nat):Option AV:=match refsLt.refsLts H.length args with
 | true=>match R.all (fun a=>match H[a]? with | some o=>Q6d H.length o | none=>true) with
  | true=>match kn.tab f with
   | some cf=>Q96 EA cf args (Qnm R H) (fun v H'=>match Qws (Qnm R H) H' with
    | true=>some v
    | false=>none)
   | none=>none
  | false=>none
 | false=>none
def Z2t (R:List Nat):List (Nat×AObj):=R.map fun a=>(a,.dead)
def Qxt {α:Type} (fail : α) (z:Unit->α) (kn:Know2) (EA:Env (Option AV)) (f:Nat) (args:List AV) (H:List AObj) (R:List Nat) (k:AV->List AObj->List Nat->List Nat->α) : α:=match Z78 kn EA f args H R with
 | some v=>match refsLt H.length v with
  | true=>k v H R []
  | false=>z ()
 | none=>z ()
def Qfz {α:Type} (fail : α) (z:Unit->α) (kn:Know2) (EA:Env (Option AV)) (f:Nat) (args:List AV) (H:List AObj) (k:AV->List AObj->List Nat->List Nat->α) : α:=match Z4r kn EA f args H.length with
 | some v=>match refsLt H.length v with
  | true=>k v H [] []
  | false=>z ()
 | none=>Qxt fail z kn EA f args H (args.flatMap (Qmx 12 H)) k
def Z32 {α:Type} (fail : α) (kn:Know2) (EV:Env (Option PV)) (EA:Env (Option AV)) (f:Nat) (args:List AV) (H:List AObj) (k:AV->List AObj->List Nat->List Nat->α) : α:=
 match AV.toPVs args with
 | some pa=>match Qjb kn EV f pa with
  | some r=>k (.p r) H [] []
  | none=>fail
 | none=>match Qn4 H args with
  | some pa=>match Qjb kn EV f pa with
   | some r=>match Q8m r with
    | true=>k (.p r) H (Qe5 H args) []
    | false=>Qfz fail (fun _=>match (Qe5 H args).all (fun a=>Nat.blt a H.length) with
     | true=>k (.p r) (Q6f (Z2t (Qe5 H args)) H) (Qe5 H args) (Qe5 H args)
     | false=>fail) kn EA f args H k
   | none=>Qfz fail (fun _=>fail) kn EA f args H k
  | none=>match args with
  | .ptr a 0::rest=>match AV.toPVs rest with
   | some pr=>match H[a]? with
    | some (.cells cs)=>match Z4k cs with
     | some cells=>match Qs9 kn EV f cells pr with
      | some (.tuple [r,.agg cells'])=>k (.p r) (H.set a (.cells (cells'.map .p))) [a] [a]
      | _=>Qfz fail (fun _=>fail) kn EA f args H k
     | none=>Qfz fail (fun _=>fail) kn EA f args H k
    | _=>Qfz fail (fun _=>fail) kn EA f args H k
   | none=>Qfz fail (fun _=>fail) kn EA f args H k
  | _=>Qfz fail (fun _=>fail) kn EA f args H k

def Qce:Nat->List COper->List COper×List COper
 | _,[]=>([],[])
 | j,c::r=>match Qul j (c::r) with
  | true=>([],c::r)
  | false=>match Qce (j+1) r with
   | (a,b)=>(c::a,b)
def Qmj (kn:Know2) (Gl:Nat->Option (List PV)) (N:Nat):Nat->(β:Type)->Env (Option β)
 | 0,_ => { fail:=none,cmp:=⟨Q4,rfl⟩,scmp:=⟨Q1l,rfl⟩,glob:=Gl,call:=fun _ _ _ _=>none,loop:=fun _ _ _ _=>none,join:=fun _ _ _ _ _=>none,draw:=fun _ _ _ _=>none }
 | d+1,β=>Env.mk none ⟨Q4,rfl⟩ ⟨Q1l,rfl⟩ Gl
   (Z3u kn (Qmj kn Gl N d PV) fun f args H k=>match kn.tab f with
     | some cf=>Q96 (Qmj kn Gl N d β) cf args H k
     | none=>none)
   (fun b tm H k=>Qqf (Qmj kn Gl N d β) b N tm H k)
   (fun a b tm H k=>ev (Qmj kn Gl N d β) a tm H fun e tm H=>match e with
    | .normal=>ev (Qmj kn Gl N d β) b tm H k
    | .exit i=>k (.exit i) tm H
    | .ret=>k .ret tm H)
   (fun ops tm H k=>match Qce 0 ops with
    | (pre,suf)=>Q42 (Qmj kn Gl N d β) (Z32 none kn (Qmj kn Gl N d PV) (Qmj kn Gl N d AV)) (fun tm H=>Q8g (Qmj kn Gl N d β) k suf tm H) pre tm H 0 [])
section
variable {P:Program} {Gl:Nat->Option (List PV)} {kn:Know2}

structure KnowOk2 (P:Program) (Gl:Nat->Option (List PV)) (kn:Know2):Prop where
 tab:∀ f cf,kn.tab f=some cf->Q75 P f cf=true
 known:∀ f args r,kn.known f args=some r->Qd9 P Gl f args r
 meth:∀ f cells args r,kn.meth f cells args=some r->∃ x cs',r=Z3c x cs'∧Z5u P Gl f cells args x cs'

theorem Q4q (hkn:KnowOk2 P Gl kn) {E:Env (Option PV)} {f:Nat} {args:List PV} {r:PV} (hE:Hom E (EP P Gl) r) (h:Qjb kn E f args=some r):Qd9 P Gl f args r:=by
 unfold Qjb at h
 cases hk:kn.known f args with
 | some x=>rw [hk] at h;cases h;exact hkn.known f args _ hk
 | none=>
  simp only [hk] at h
  cases ht:kn.tab f with
  | none=>simp only [ht] at h;cases h
  | some cf=>
   simp only [ht,J8] at h;exact Q0 (hkn.tab f cf ht) (Q9o hE (fun v H hv=>Qil (fun _ _ _ ho=>⟨trivial,ho⟩) (Qfs Z2i v r hv)) h)

theorem Qzb {H1 H2:List AObj} {K1 K2:Nat->Prop} (h:∀ a o,K1 a->H1[a]? = some o->o ≠ .dead->K2 a∧H2[a]? = some o) {v:AV} {x:PV} (hf:Frz K1 H1 v x):Frz K2 H2 v x:=by
 induction hf with
 | p x=>exact .p x
 | nil esz=>exact .nil esz
 | zero esz=>exact .zero esz
 | slice esz a off len cs rows hk ho hl hr hn hv ih=>
  obtain ⟨k1,k2⟩:=h a _ hk ho (by simp);exact .slice esz a off len cs rows k1 k2 hl hr hn ih
 | agg cs ps hn _ ih=>exact .agg cs ps hn ih
 | tuple cs ps hn _ ih=>exact .tuple cs ps hn ih
 | func fn a b a' b' n1 _ n2 _ ih1 ih2=>exact .func fn a b a' b' n1 ih1 n2 ih2
 | iface t v x _ ih=>exact .iface t v x ih
 | map r es ps hk ho hn hkk _ ih=>
  obtain ⟨k1,k2⟩:=h r _ hk ho (by simp);exact .map r es ps k1 k2 hn hkk ih

theorem Qog {H:List AObj} {v:AV} {x:PV} (h:Qqa H v=some x):∃ r cs',x=Z3c r cs'∧∃ cs rest,H = .cells cs::rest∧FrzL (fun a=>a≠0) H cs cs'∧Frz (fun a=>a≠0) H v r:=by
 unfold Qqa at h;split at h
 ·rename_i cs rest;split at h
  ·rename_i ps h1;split at h
   ·rename_i r h2;cases h
    have key:∀ {K:Nat->Prop} {v:AV} {x:PV},Frz K (AObj.dead::rest) v x->Frz (fun a=>a≠0) (AObj.cells cs::rest) v x:=by
     intro K v x hf;refine Qzb (fun a o _ ho hc=>?_) hf
     cases a with
     | zero=>simp at ho;exact absurd ho.symm hc
     | succ a=>exact ⟨by simp,by simpa using ho⟩
    have q:=Q8u _ _ h1;exact ⟨r,ps,rfl,cs,rest,rfl,⟨q.1,fun i v x hv hx=>key (q.2 i v x hv hx)⟩,key (Qfs Z2i _ _ h2)⟩
   cases h
  cases h
 ·cases h

theorem Qhj (hkn:KnowOk2 P Gl kn) {E:Env (Option PV)} {f:Nat} {cells args:List PV} {x:PV} {cs':List PV} (hE:Hom E (EP P Gl) (Z3c x cs')) (h:Qs9 kn E f cells args=some (Z3c x cs')):Z5u P Gl f cells args x cs':=by
 unfold Qs9 at h
 cases hk:kn.meth f cells args with
 | some y=>
  rw [hk] at h;cases h;obtain ⟨y,cs'',e,q⟩:=hkn.meth f cells args _ hk;simp only [Z3c,PV.tuple.injEq,Ca,PV.agg.injEq,and_true] at e;obtain ⟨rfl,rfl⟩:=e;exact q
 | none=>
  simp only [hk] at h
  cases ht:kn.tab f with
  | none=>simp only [ht] at h;cases h
  | some cf=>
   simp only [ht,J8] at h;refine Qu5 (hkn.tab f cf ht) (Q9o hE (fun v H hv=>?_) h);obtain ⟨y',cs'',e,q⟩:=Qog hv;simp only [Z3c,PV.tuple.injEq,Ca,PV.agg.injEq,and_true] at e;obtain ⟨rfl,rfl⟩:=e;exact q

theorem Qx0 (hkn:KnowOk2 P Gl kn) {β:Type} {EV:Env (Option PV)} (hEV:∀ r,Hom EV (EP P Gl) r) {r : β} {inl:Nat->List AV->List AObj->(AV->List AObj->Option β)->Option β} {f:Nat} {args:List AV} {H:List AObj}
  {kO:AV->List AObj->Option β} {kP:AV->List AObj->Prop} (hk:∀ v H',kO v H'=some r->kP v H') (hinl:inl f args H kO=some r->Ue P Gl f args H kP) (he:Z3u kn EV inl f args H kO=some r):Ue P Gl f args H kP:=by
 unfold Z3u at he;split at he
 ·rename_i pa h1;split at he
  ·rename_i x h2;exact Q6r (Q4q hkn (hEV x) h2) (Q5x args pa h1) (hk _ _ he)
  exact hinl he
 split at he
 ·rename_i pa h1;split at he
  ·rename_i x h2;split at he
   ·rename_i h3;have q:=Q8u args pa h1;exact Qf6 (Q4q hkn (hEV x) h2) ⟨q.1,fun i v x hv hx=>Qil (fun a o _ ho=>⟨trivial,ho⟩) (q.2 i v x hv hx)⟩ h3 (hk _ _ he)
   exact hinl he
  exact hinl he
 ·split at he
  ·rename_i a rest _ _;split at he
   ·rename_i pr h1;split at he
    ·rename_i cs ha;split at he
     ·rename_i cells hc;split at he
      ·split at he
       ·rename_i x cells' h2;exact Qow (Qhj hkn (hEV _) h2) (by rw [ha,Qr2 _ _ hc]) (Q5x rest pr h1) (hk _ _ he)
       exact hinl he
      exact hinl he
     exact hinl he
    exact hinl he
   exact hinl he
  ·exact hinl he

theorem Qtl (hkn:KnowOk2 P Gl kn) {β:Type} {EA:Env (Option AV)} (hEA:∀ r,Hom EA (EP P Gl) r) {r : β} {f:Nat} {args:List AV} {H:List AObj} {R:List Nat}
  {kO:AV->List AObj->List Nat->List Nat->Option β} {kP:AV->List AObj->List Nat->List Nat->Prop} (hk:∀ v H' R A,kO v H' R A=some r->kP v H' R A) {z:Unit->Option β} (hz:z ()=some r->Q06 P Gl f args H kP) (he:Qxt none z kn EA f args H R kO=some r):Q06 P Gl f args H kP:=by
 unfold Qxt at he;split at he
 ·rename_i v hv;unfold Z78 at hv;split at hv
  ·rename_i h1;split at hv
   ·rename_i h2;split at hv
    ·rename_i cf hcf;split at he
     ·rename_i hr
      have hc:Ue P Gl f args (Qnm R H) (fun v0 H'=>v0=v∧∃ rest,H'=Qnm R H++rest):=Zx (hkn.tab f cf hcf) (Q9o (hEA v) (fun v0 H' h=>by
       split at h
       ·rename_i hp;cases h;exact ⟨rfl,Qss _ _ hp⟩
       cases h) hv)
      refine Qqy R h1 hr (fun a ha o ho=>?_) hc (hk _ _ _ _ he);have:=Me.1 h2 a ha;rw [ho] at this;exact this
     exact hz he
    cases hv
   cases hv
  cases hv
 exact hz he
theorem Q6g (hkn:KnowOk2 P Gl kn) {β:Type} {EA:Env (Option AV)} (hEA:∀ r,Hom EA (EP P Gl) r) {r : β} {f:Nat} {args:List AV} {H:List AObj}
  {kO:AV->List AObj->List Nat->List Nat->Option β} {kP:AV->List AObj->List Nat->List Nat->Prop} (hk:∀ v H' R A,kO v H' R A=some r->kP v H' R A) {z:Unit->Option β} (hz:z ()=some r->Q06 P Gl f args H kP) (he:Qfz none z kn EA f args H kO=some r):Q06 P Gl f args H kP:=by
 unfold Qfz at he;split at he
 ·rename_i v hv;unfold Z4r at hv;split at hv
  ·rename_i h1;split at hv
   ·rename_i cf hcf;split at he
    ·rename_i hr;have hc:Ue P Gl f args (List.replicate H.length .dead) (fun v0 _=>v0=v):=Zx (hkn.tab f cf hcf) (Q9o (hEA v) (fun v0 H' h=>by cases h;rfl) hv);exact .inl ⟨[],[],v,fun s h=>(by cases h),fun H2 _=>Qh4 (Qtr h1 hr hc H2) (fun v' H' ⟨e1,e2⟩=>⟨e1,e2⟩),hk _ _ _ _ he⟩
    exact hz he
   cases hv
  cases hv
 exact Qtl hkn hEA hk hz he
theorem Qpg (hkn:KnowOk2 P Gl kn) {β:Type} {EV:Env (Option PV)} (hEV:∀ r,Hom EV (EP P Gl) r) {EA:Env (Option AV)} (hEA:∀ r,Hom EA (EP P Gl) r) {r : β} {f:Nat} {args:List AV} {H:List AObj}
  {kO:AV->List AObj->List Nat->List Nat->Option β} {kP:AV->List AObj->List Nat->List Nat->Prop} (hk:∀ v H' R A,kO v H' R A=some r->kP v H' R A) (he:Z32 none kn EV EA f args H kO=some r):Q06 P Gl f args H kP:=by
 unfold Z32 at he;split at he
 ·rename_i pa h1;split at he
  ·rename_i x h2;have hp:=Q4q hkn (hEV x) h2;exact .inl ⟨[],[],.p x,fun s h=>(by cases h),fun H2 _=>Q6r hp (Q5x args pa h1) ⟨rfl,rfl⟩,hk _ _ _ _ he⟩
  cases he
 split at he
 ·rename_i pa h1;split at he
  ·rename_i x h2;split at he
   ·rename_i h3;have q:=Q8u args pa h1;have hp:=Q4q hkn (hEV x) h2;exact .inl ⟨Qe5 H args,[],.p x,fun s h=>(by cases h),fun H2 hH2=>Qf6 hp ⟨q.1,fun i v x hv hx=>Qil (fun a o hk ho=>⟨trivial,hH2 a hk o ho⟩) (q.2 i v x hv hx)⟩ h3 ⟨rfl,rfl⟩,hk _ _ _ _ he⟩
   refine Q6g hkn hEA hk (fun hz=>?_) he;split at hz
   ·rename_i hR;have q:=Q8u args pa h1;have hp:=Q4q hkn (hEV x) h2;exact Qtm _ hp q (fun a ha=>by simpa using Me.1 hR a ha) (hk _ _ _ _ hz)
   cases hz
  exact Q6g hkn hEA hk (fun h=>by cases h) he
 ·split at he
  ·rename_i a rest _ _;split at he
   ·rename_i pr h1;split at he
    ·rename_i cs ha;split at he
     ·rename_i cells hc;split at he
      ·rename_i x cells' h2;have hm:=Qhj hkn (hEV _) h2;refine .inl ⟨[a],[(a,.cells (cells'.map .p))],.p x,fun s hs=>?_,fun H2 hH2=>?_,hk _ _ _ _ he⟩
       ·simp at hs;subst hs;exact (Lb.1 ha).1
       refine Qow hm ?_ (Q5x rest pr h1) ⟨rfl,rfl⟩;rw [hH2 a (by simp) _ ha,Qr2 _ _ hc]
      exact Q6g hkn hEA hk (fun h=>by cases h) he
     exact Q6g hkn hEA hk (fun h=>by cases h) he
    exact Q6g hkn hEA hk (fun h=>by cases h) he
   exact Q6g hkn hEA hk (fun h=>by cases h) he
  ·exact Q6g hkn hEA hk (fun h=>by cases h) he

theorem Qju:∀ (cs:List COper) (j:Nat),cs=(Qce j cs).1++(Qce j cs).2∧Qul (j+(Qce j cs).1.length) (Qce j cs).2=true
 | [],j=>⟨rfl,rfl⟩
 | c::r,j=>by
  simp only [Qce];split
  ·rename_i ht;exact ⟨rfl,ht⟩
  obtain ⟨h1,h2⟩:=Qju r (j+1);refine ⟨by simp only [Bb];rw [← h1],?_⟩;rw [Li,show j+((Qce (j+1) r).1.length+1)=j+1+(Qce (j+1) r).1.length by omega];exact h2
theorem Qsb (hkn:KnowOk2 P Gl kn) (N:Nat):∀ (d:Nat) (β:Type) (r : β),Hom (Qmj kn Gl N d β) (EP P Gl) r
 | 0,β,r=>⟨rfl,rfl,fun f a H kO kP hk he=>(by simp only [Qmj] at he;cases he),fun b tm H kO kP hk he=>(by simp only [Qmj] at he;cases he),fun a b tm H kO kP hk he=>(by simp only [Qmj] at he;cases he),fun b tm H kO kP hk he=>(by simp only [Qmj] at he;cases he)⟩
 | d+1,β,r=>by
  have ih:=Qsb hkn N d;refine ⟨rfl,rfl,fun f a H kO kP hk he=>?_,fun b tm H kO kP hk he=>?_,fun a b tm H kO kP hk he=>?_,fun ops tm H kO kP hk he=>?_⟩
  ·simp only [Qmj] at he;refine Qx0 hkn (ih PV) hk (fun he=>?_) he
   cases ht:kn.tab f with
   | none=>simp only [ht] at he;cases he
   | some cf=>
    simp only [ht] at he;exact Zx (hkn.tab f cf ht) (Q9o (ih β r) hk he)
  ·simp only [Qmj] at he;exact Qdr N (Qp1 (ih β r) hk N tm H he)
  ·simp only [Qmj] at he;refine Y1 (Qfj (ih β r) a tm H _ _ (fun e v H' hv=>?_) he)
   cases e with
   | normal=>exact Qfj (ih β r) b v H' kO kP hk hv
   | exit i=>exact hk _ _ _ hv
   | ret=>exact hk _ _ _ hv
  ·simp only [Qmj] at he;obtain ⟨h1,h2⟩:=Qju ops 0;rw [Mq] at h2;generalize (Qce 0 ops).1=pre at he h1 h2;generalize (Qce 0 ops).2=suf at he h1 h2;subst h1
   cases suf with
   | nil=>
    rw [Lu];exact Ql (Qd3 (dP:=Q06 P Gl) (ih β r) (fun f a H kO kP hk he=>Qpg hkn (ih PV) (ih AV) hk he) hk pre tm H 0 [] he)
   | cons c0 suf=>exact Qwr h2 (Qd3 (dP:=Q06 P Gl) (ih β r) (fun f a H kO kP hk he=>Qpg hkn (ih PV) (ih AV) hk he) (fun tm' H' hv=>Qfo (ih β r) hk _ tm' H' hv) pre tm H 0 [] he)

theorem Uu (hkn:KnowOk2 P Gl kn) {N d:Nat} {f:Nat} {args:List PV} {r:PV} (h:Qjb kn (Qmj kn Gl N d PV) f args=some r):Qd9 P Gl f args r:=
 Q4q hkn (Qsb hkn N d PV r) h
end
end
end Go.Av
