/- Part of FromsnBack: the law returns true; no condition. -/
import Derived.Test.YthbmcbacbhfnmaaGreatDoorAvClosed
import Derived.Test.YthbmcbacbhfnmaaGreatDoorAvDrawt
import Derived.Test.YthbmcbacbhfnmaaGreatDoorAvMeth
import Derived.Test.YthbmcbacbhfnmaaGreatDoorAvLook
import Derived.Test.YthbmcbacbhfnmaaGreatDoorAvFunc
set_option linter.all false
namespace Go.Av
noncomputable section
set_option maxHeartbeats 4000000

structure Know2 where
 tab:Nat->Option CFunc
 known:Nat->List PV->Option PV
 meth:Nat->List PV->List PV->Option PV

def Z6n (r:PV) (cells:List PV):PV := .tuple [r,.agg cells]

def Qqb:List AObj->AV->Option PV
 | .cells cs::rest,v=>match Qjd (.dead::rest) cs with
  | some ps=>match Qvc Z59 (.dead::rest) v with
   | some r=>some (Z6n r ps)
   | none=>none
  | none=>none
 | _,_=>none

def Qc6 (kn:Know2) (E:Env (Option PV)) (f:Nat) (args:List PV):Option PV:=match kn.known f args with
 | some r=>some r
 | none=>match kn.tab f with
  | some cf=>Qcb .p args fun args=>Q6s E cf args [] (fun v H=>Qvc Z59 H v)
  | none=>none
def Qoa (kn:Know2) (E:Env (Option PV)) (f:Nat) (cells args:List PV):Option PV:=match kn.meth f cells args with
 | some r=>some r
 | none=>match kn.tab f with
  | some cf=>Qcb .p args fun args=>Qcb .p cells fun cells=>Q6s E cf (.ptr 0 0::args) [.cells cells] (fun v H=>Qqb H v)
  | none=>none

def Z53:List AV->Option (List PV)
 | []=>some []
 | .p x::r=>match Z53 r with
  | some ps=>some (x::ps)
  | none=>none
 | _::_=>none
theorem Qm3:∀ (cs:List AV) (ps:List PV),Z53 cs=some ps->cs=ps.map .p
 | [],ps,h=>by simp_all [Z53]
 | c::cs,ps,h=>by
  cases c<;>simp only [Z53] at h<;>try (cases h;done)
  split at h
  ·rename_i x ps' h1;cases h;rw [Qm3 cs ps' h1];rfl
  grind
def Qn0:List PV->Bool
 | []=>true
 | .int _ _::r=>Qn0 r
 | .bool _::r=>Qn0 r
 | .str _::r=>Qn0 r
 | _::_=>false
def Z24 {α:Type} (kn:Know2) (EV:Env (Option PV)) (inl:Nat->List AV->List AObj->(AV->List AObj->α)->α) (f:Nat) (args:List AV) (H:List AObj) (k:AV->List AObj->α) : α:=
 match AV.toPVs args with
 | some pa=>match Qc6 kn EV f pa with
  | some r=>k (.p r) H
  | none=>inl f args H k
 | none=>match Qjd H args with
  | some pa=>match Qc6 kn EV f pa with
   | some r=>match Q29 r with
    | true=>k (.p r) H
    | false=>inl f args H k
   | none=>inl f args H k
  | none=>match args with
  | .ptr a 0::rest=>match AV.toPVs rest with
   | some pr=>match H[a]? with
    | some (.cells cs)=>match Z53 cs with
     | some cells=>match Qn0 cells with
      | true=>match Qoa kn EV f cells pr with
       | some (.tuple [r,.agg cells'])=>k (.p r) (H.set a (.cells (cells'.map .p)))
       | _=>inl f args H k
      | false=>inl f args H k
     | none=>inl f args H k
    | _=>inl f args H k
   | none=>inl f args H k
  | _=>inl f args H k
def Z9i (kn:Know2) (EA:Env (Option AV)) (f:Nat) (args:List AV) (n:Nat):Option AV:=match refsLt.refsLts n args with
 | true=>match kn.tab f with
  | some cf=>Q6s EA cf args (List.replicate n .dead) (fun v _=>some v)
  | none=>none
 | false=>none
def Z8s (kn:Know2) (EA:Env (Option AV)) (f:Nat) (args:List AV) (H:List AObj) (R:List Nat):Option AV:=match refsLt.refsLts H.length args with
 | true=>match R.all (fun a=>match H[a]? with | some o=>Q1s H.length o | none=>true) with
  | true=>match kn.tab f with
   | some cf=>Q6s EA cf args (Qnb R H) (fun v H'=>match Qw7 (Qnb R H) H' with
    | true=>some v
    | false=>none)
   | none=>none
  | false=>none
 | false=>none
def Qvp (R:List Nat):List (Nat×AObj):=R.map fun a=>(a,.dead)
def Qyh {α:Type} (fail : α) (z:Unit->α) (kn:Know2) (EA:Env (Option AV)) (f:Nat) (args:List AV) (H:List AObj) (R:List Nat) (k:AV->List AObj->List Nat->List Nat->α) : α:=match Z8s kn EA f args H R with
 | some v=>match refsLt H.length v with
  | true=>k v H R []
  | false=>z ()
 | none=>z ()
def Q6u {α:Type} (fail : α) (z:Unit->α) (kn:Know2) (EA:Env (Option AV)) (f:Nat) (args:List AV) (H:List AObj) (k:AV->List AObj->List Nat->List Nat->α) : α:=match Z9i kn EA f args H.length with
 | some v=>match refsLt H.length v with
  | true=>k v H [] []
  | false=>z ()
 | none=>Qyh fail z kn EA f args H (args.flatMap (Qlf 12 H)) k
def Z74 {α:Type} (fail : α) (kn:Know2) (EV:Env (Option PV)) (EA:Env (Option AV)) (f:Nat) (args:List AV) (H:List AObj) (k:AV->List AObj->List Nat->List Nat->α) : α:=
 match AV.toPVs args with
 | some pa=>match Qc6 kn EV f pa with
  | some r=>k (.p r) H [] []
  | none=>fail
 | none=>match Qjd H args with
  | some pa=>match Qc6 kn EV f pa with
   | some r=>match Q29 r with
    | true=>k (.p r) H (Q5i H args) []
    | false=>Q6u fail (fun _=>match (Q5i H args).all (fun a=>Nat.blt a H.length) with
     | true=>k (.p r) (Q5l (Qvp (Q5i H args)) H) (Q5i H args) (Q5i H args)
     | false=>fail) kn EA f args H k
   | none=>Q6u fail (fun _=>fail) kn EA f args H k
  | none=>match args with
  | .ptr a 0::rest=>match AV.toPVs rest with
   | some pr=>match H[a]? with
    | some (.cells cs)=>match Z53 cs with
     | some cells=>match Qoa kn EV f cells pr with
      | some (.tuple [r,.agg cells'])=>k (.p r) (H.set a (.cells (cells'.map .p))) [a] [a]
      | _=>Q6u fail (fun _=>fail) kn EA f args H k
     | none=>Q6u fail (fun _=>fail) kn EA f args H k
    | _=>Q6u fail (fun _=>fail) kn EA f args H k
   | none=>Q6u fail (fun _=>fail) kn EA f args H k
  | _=>Q6u fail (fun _=>fail) kn EA f args H k

def Q82:Nat->List COper->List COper×List COper
 | _,[]=>([],[])
 | j,c::r=>match Qi8 j (c::r) with
  | true=>([],c::r)
  | false=>match Q82 (j+1) r with
   | (a,b)=>(c::a,b)
def Qlg (kn:Know2) (Gl:Nat->Option (List PV)) (N:Nat):Nat->(β:Type)->Env (Option β)
 | 0,_ => { fail:=none,cmp:=⟨Q0,rfl⟩,scmp:=⟨Q10,rfl⟩,glob:=Gl,call:=fun _ _ _ _=>none,loop:=fun _ _ _ _=>none,join:=fun _ _ _ _ _=>none,draw:=fun _ _ _ _=>none }
 | d+1,β=>Env.mk none ⟨Q0,rfl⟩ ⟨Q10,rfl⟩ Gl
   (Z24 kn (Qlg kn Gl N d PV) fun f args H k=>match kn.tab f with
     | some cf=>Q6s (Qlg kn Gl N d β) cf args H k
     | none=>none)
   (fun b tm H k=>Qnr (Qlg kn Gl N d β) b N tm H k)
   (fun a b tm H k=>ev (Qlg kn Gl N d β) a tm H fun e tm H=>match e with
    | .normal=>ev (Qlg kn Gl N d β) b tm H k
    | .exit i=>k (.exit i) tm H
    | .ret=>k .ret tm H)
   (fun ops tm H k=>match Q82 0 ops with
    | (pre,suf)=>Q0f (Qlg kn Gl N d β) (Z74 none kn (Qlg kn Gl N d PV) (Qlg kn Gl N d AV)) (fun tm H=>Q0e (Qlg kn Gl N d β) k suf tm H) pre tm H 0 [])
section
variable {P:Program} {Gl:Nat->Option (List PV)} {kn:Know2}

structure KnowOk2 (P:Program) (Gl:Nat->Option (List PV)) (kn:Know2):Prop where
 tab:∀ f cf,kn.tab f=some cf->Q5p P f cf=true
 known:∀ f args r,kn.known f args=some r->Qcp P Gl f args r
 meth:∀ f cells args r,kn.meth f cells args=some r->∃ x cs',r=Z6n x cs'∧Qtu P Gl f cells args x cs'

def Gs (hkn:KnowOk2 P Gl kn) {E:Env (Option PV)} {f:Nat} {args:List PV} {r:PV} (hE:Hom E (EP P Gl) r) (h:Qc6 kn E f args=some r):Qcp P Gl f args r:=by
 unfold Qc6 at h
 cases hk:kn.known f args with
 | some x=>rw [hk] at h;cases h;exact hkn.known f args _ hk
 | none=>
  simp only [hk] at h
  cases ht:kn.tab f with
  | none=>simp_all
  | some cf=>
   simp only [ht,Jr] at h;exact Q1 (hkn.tab f cf ht) (Q5u hE (fun v H hv=>Qeh (fun _ _ _ ho=>⟨trivial,ho⟩) (Qdc Z59 v r hv)) h)

theorem Z0d {H1 H2:List AObj} {K1 K2:Nat->Prop} (h:∀ a o,K1 a->H1[a]? = some o->o ≠ .dead->K2 a∧H2[a]? = some o) {v:AV} {x:PV} (hf:Frz K1 H1 v x):Frz K2 H2 v x:=by
 induction hf with
 | p x=>exact .p x
 | nil esz=>exact .nil esz
 | zero esz=>exact .zero esz
 | slice esz a off len cs rows hk ho hl hr hn hv ih=>
  obtain ⟨k1,k2⟩:=h a _ hk ho (by simp);exact .slice esz a off len cs rows k1 k2 hl hr hn ih
 | agg cs ps hn _ ih=>exact .agg cs ps hn ih
 | tuple cs ps hn _ ih=>exact .tuple cs ps hn ih
 | func fn a b a' b' n1 _ n2 _ ih1 ih2=>exact .func fn a b a' b' n1 ih1 n2 ih2
 | iface t v x _ ih=>exact .iface t v x ih
 | map r es ps hk ho hn hkk _ ih=>
  obtain ⟨k1,k2⟩:=h r _ hk ho (by simp);exact .map r es ps k1 k2 hn hkk ih

theorem Qny {H:List AObj} {v:AV} {x:PV} (h:Qqb H v=some x):∃ r cs',x=Z6n r cs'∧∃ cs rest,H = .cells cs::rest∧FrzL (fun a=>a≠0) H cs cs'∧Frz (fun a=>a≠0) H v r:=by
 unfold Qqb at h;split at h
 ·rename_i cs rest;split at h
  ·rename_i ps h1;split at h
   ·rename_i r h2;cases h
    have key:∀ {K:Nat->Prop} {v:AV} {x:PV},Frz K (AObj.dead::rest) v x->Frz (fun a=>a≠0) (AObj.cells cs::rest) v x:=by grind [Z0d]
    have q:=Q4e _ _ h1;exact ⟨r,ps,rfl,cs,rest,rfl,⟨q.1,fun i v x hv hx=>key (q.2 i v x hv hx)⟩,key (Qdc Z59 _ _ h2)⟩
   grind
  grind
 grind

def Qb0 (hkn:KnowOk2 P Gl kn) {E:Env (Option PV)} {f:Nat} {cells args:List PV} {x:PV} {cs':List PV} (hE:Hom E (EP P Gl) (Z6n x cs')) (h:Qoa kn E f cells args=some (Z6n x cs')):Qtu P Gl f cells args x cs':=by
 unfold Qoa at h
 cases hk:kn.meth f cells args with
 | some y=>
  rw [hk] at h;cases h;obtain ⟨y,cs'',e,q⟩:=hkn.meth f cells args _ hk<;>simp_all [Z6n]
 | none=>
  simp only [hk] at h
  cases ht:kn.tab f with
  | none=>simp_all
  | some cf=>
   simp only [ht,Jr] at h;refine Q78 (hkn.tab f cf ht) (Q5u hE (fun v H hv=>?_) h)
   grind [Qny,Z6n]

def Qo2 (hkn:KnowOk2 P Gl kn) {β:Type} {EV:Env (Option PV)} (hEV:∀ r,Hom EV (EP P Gl) r) {r : β} {inl:Nat->List AV->List AObj->(AV->List AObj->Option β)->Option β} {f:Nat} {args:List AV} {H:List AObj}
  {kO:AV->List AObj->Option β} {kP:AV->List AObj->Prop} (hk:∀ v H',kO v H'=some r->kP v H') (hinl:inl f args H kO=some r->Qq P Gl f args H kP) (he:Z24 kn EV inl f args H kO=some r):Qq P Gl f args H kP:=by
 unfold Z24 at he;split at he
 ·rename_i pa h1;split at he
  ·rename_i x h2;exact Uo (Gs hkn (hEV x) h2) (Q2y args pa h1) (hk _ _ he)
  simp_all
 split at he
 ·rename_i pa h1;split at he
  ·rename_i x h2;split at he
   ·rename_i h3;have q:=Q4e args pa h1;exact Qdl (Gs hkn (hEV x) h2) ⟨q.1,fun i v x hv hx=>Qeh (fun a o _ ho=>⟨trivial,ho⟩) (q.2 i v x hv hx)⟩ h3 (hk _ _ he)
   simp_all
  simp_all
 ·split at he
  ·rename_i a rest _ _;split at he
   ·rename_i pr h1;split at he
    ·rename_i cs ha;split at he
     ·rename_i cells hc;split at he
      ·split at he
       ·rename_i x cells' h2;exact Qbb (Qb0 hkn (hEV _) h2) (by rw [ha,Qm3 _ _ hc]) (Q2y rest pr h1) (hk _ _ he)
       simp_all
      simp_all
     simp_all
    simp_all
   simp_all
  simp_all

theorem Qu6 (hkn:KnowOk2 P Gl kn) {β:Type} {EA:Env (Option AV)} (hEA:∀ r,Hom EA (EP P Gl) r) {r : β} {f:Nat} {args:List AV} {H:List AObj} {R:List Nat}
  {kO:AV->List AObj->List Nat->List Nat->Option β} {kP:AV->List AObj->List Nat->List Nat->Prop} (hk:∀ v H' R A,kO v H' R A=some r->kP v H' R A) {z:Unit->Option β} (hz:z ()=some r->Wz P Gl f args H kP) (he:Qyh none z kn EA f args H R kO=some r):Wz P Gl f args H kP:=by
 unfold Qyh at he;split at he
 ·rename_i v hv;unfold Z8s at hv;split at hv
  ·rename_i h1;split at hv
   ·rename_i h2;split at hv
    ·rename_i cf hcf;split at he
     ·rename_i hr
      have hc:Qq P Gl f args (Qnb R H) (fun v0 H'=>v0=v∧∃ rest,H'=Qnb R H++rest):=Q8 (hkn.tab f cf hcf) (Q5u (hEA v) (fun v0 H' h=>by
       grind [Qsm]) hv)
      grind [Q7a]
     simp_all
    simp_all
   simp_all
  simp_all
 simp_all
theorem G8 (hkn:KnowOk2 P Gl kn) {β:Type} {EA:Env (Option AV)} (hEA:∀ r,Hom EA (EP P Gl) r) {r : β} {f:Nat} {args:List AV} {H:List AObj}
  {kO:AV->List AObj->List Nat->List Nat->Option β} {kP:AV->List AObj->List Nat->List Nat->Prop} (hk:∀ v H' R A,kO v H' R A=some r->kP v H' R A) {z:Unit->Option β} (hz:z ()=some r->Wz P Gl f args H kP) (he:Q6u none z kn EA f args H kO=some r):Wz P Gl f args H kP:=by
 unfold Q6u at he;split at he
 ·rename_i v hv;unfold Z9i at hv;split at hv
  ·rename_i h1;split at hv
   ·rename_i cf hcf;split at he
    ·rename_i hr;have hc:Qq P Gl f args (List.replicate H.length .dead) (fun v0 _=>v0=v):=Q8 (hkn.tab f cf hcf) (Q5u (hEA v) (fun v0 H' h=>by simp_all) hv);exact .inl ⟨[],[],v,fun s h=>(by cases h),fun H2 _=>Vf (Qku h1 hr hc H2) (fun v' H' ⟨e1,e2⟩=>⟨e1,e2⟩),hk _ _ _ _ he⟩
    simp_all
   simp_all
  simp_all
 grind [Qu6]
def Qpp (hkn:KnowOk2 P Gl kn) {β:Type} {EV:Env (Option PV)} (hEV:∀ r,Hom EV (EP P Gl) r) {EA:Env (Option AV)} (hEA:∀ r,Hom EA (EP P Gl) r) {r : β} {f:Nat} {args:List AV} {H:List AObj}
  {kO:AV->List AObj->List Nat->List Nat->Option β} {kP:AV->List AObj->List Nat->List Nat->Prop} (hk:∀ v H' R A,kO v H' R A=some r->kP v H' R A) (he:Z74 none kn EV EA f args H kO=some r):Wz P Gl f args H kP:=by
 unfold Z74 at he;split at he
 ·rename_i pa h1;split at he
  ·exact dq
  simp_all
 split at he
 ·rename_i pa h1;split at he
  ·exact aM
  grind [G8]
 ·split at he
  ·rename_i a rest _ _;split at he
   ·rename_i pr h1;split at he
    ·rename_i cs ha;split at he
     ·rename_i cells hc;split at he
      ·exact bG
      grind [G8]
     grind [G8]
    grind [G8]
   grind [G8]
  grind [G8]

def Qd1:∀ (cs:List COper) (j:Nat),cs=(Q82 j cs).1++(Q82 j cs).2∧Qi8 (j+(Q82 j cs).1.length) (Q82 j cs).2=true
 | [],j=>⟨rfl,rfl⟩
 | c::r,j=>by
  simp only [Q82];split
  ·simp_all
  obtain ⟨h1,h2⟩:=Qd1 r (j+1)
  grind
def Qrt (hkn:KnowOk2 P Gl kn) (N:Nat):∀ (d:Nat) (β:Type) (r : β),Hom (Qlg kn Gl N d β) (EP P Gl) r
 | 0,β,r=>⟨rfl,rfl,fun f a H kO kP hk he=>(iw),fun b tm H kO kP hk he=>(iw),fun a b tm H kO kP hk he=>(iw),fun b tm H kO kP hk he=>(iw)⟩
 | d+1,β,r=>by
  have ih:=Qrt hkn N d;refine ⟨rfl,rfl,fun f a H kO kP hk he=>?_,fun b tm H kO kP hk he=>?_,fun a b tm H kO kP hk he=>?_,fun ops tm H kO kP hk he=>?_⟩
  ·simp only [Qlg] at he;refine Qo2 hkn (ih PV) hk (fun he=>?_) he
   exact dA
  ·simp only [Qlg] at he;exact Zf N (Qha (ih β r) hk N tm H he)
  ·simp only [Qlg] at he;refine Q6x (Qaz (ih β r) a tm H _ _ (fun e v H' hv=>?_) he)
   exact ed
  ·simp only [Qlg] at he;obtain ⟨h1,h2⟩:=Qd1 ops 0;rw [Mi] at h2;generalize (Q82 0 ops).1=pre at he h1 h2;generalize (Q82 0 ops).2=suf at he h1 h2;subst h1
   cases suf with
   | nil=>
    rw [Na];exact Qd (Q5w (dP:=Wz P Gl) (ih β r) (fun f a H kO kP hk he=>Qpp hkn (ih PV) (ih AV) hk he) hk pre tm H 0 [] he)
   | cons c0 suf=>exact Qhx h2 (Q5w (dP:=Wz P Gl) (ih β r) (fun f a H kO kP hk he=>Qpp hkn (ih PV) (ih AV) hk he) (fun tm' H' hv=>Q99 (ih β r) hk _ tm' H' hv) pre tm H 0 [] he)

def Qf7 (hkn:KnowOk2 P Gl kn) {N d:Nat} {f:Nat} {args:List PV} {r:PV} (h:Qc6 kn (Qlg kn Gl N d PV) f args=some r):Qcp P Gl f args r:=
 Gs hkn (Qrt hkn N d PV r) h
end
end
end Go.Av
namespace Go.Av
noncomputable section
set_option maxHeartbeats 4000000
universe u
def cF {o:Cmp} {x y:Int} {b:Bool} (h:Q0 o x y=b):Ql6 o x y=b:=by simp_all [cmpX_eq]
def Env.c1 {α:Type u} (E:Env α):E.cmp.1=Q0:=E.cmp.2
section
variable {P:Program} {Gl:Nat->Option (List PV)}
def ifP {b:Bool} {X Y:Prop} (h1:b=true->X) (h2:b=false->Y) : @Bool.rec (fun _=>Prop) Y X b:=gj
def ifT {b:Bool} {X Y:Prop} (h:b=true) (hx:X) : @Bool.rec (fun _=>Prop) Y X b:=by simp_all
def ifF {b:Bool} {X Y:Prop} (h:b=false) (hy:Y) : @Bool.rec (fun _=>Prop) Y X b:=by simp_all
def Q3a {b:Bool} {X:Prop} (h:b=true) (h1:X) : @Bool.rec (fun _=>Prop) (EP P Gl).fail X b:=by simp_all
def Zhm {β:Type} {l:List β} {i:Int} {k : β->Prop} {x : β} (h:idx l i=some x) (hk:k x):Z04 (EP P Gl) l i k:=by simp_all [Z04]
theorem Q5n {f:Nat} {args:List AV} {pargs:List PV} {r:PV} {H:List AObj} {k:AV->List AObj->List Nat->List Nat->Prop} (hp:Qcp P Gl f pargs r) (hf:FrzL (fun _=>False) H args pargs) (hk:k (.p r) H [] []):Wz P Gl f args H k:=
 .inl ⟨[],[],.p r,fun s h=>(by cases h),fun _ _=>Uo hp (hf.K (fun _ _ h _=>h.elim)) ⟨rfl,rfl⟩,hk⟩
end
end
end Go.Av
namespace Go.Av
noncomputable section
set_option maxHeartbeats 4000000
section
variable {P:Program} {Gl:Nat->Option (List PV)}
def Q2h {α β:Type} {x:Option α} {f : α->Option β} {r : β} (h:x.bind f=some r):∃ v,x=some v∧f v=some r:=by
 cases x<;>simp_all
def ifO {b:Bool} {R:Type} {x y:Option R} {r:R} {X Y:Prop} (h:cond b x y=some r) (h1:b=true->x=some r->X) (h2:b=false->y=some r->Y) : @Bool.rec (fun _=>Prop) Y X b:=gj
def Q6a {b:Bool} {R:Type} {x:Option R} {r:R} (h:cond b x none=some r):b=true∧x=some r:=by
 grind
def Qe {α:Type} {a r : α} (h:some a=some r):a=r:=by simp_all
def Z8p {b:Bool} (h:b=false):(!b)=true:=by simp_all
def Qnz {b:Bool} (h:(!b)=true):b=false:=by simp_all
def Z8q {b:Bool} (h:b=true):(!b)=false:=by simp_all
theorem Quj {f:Nat} {cells args:List PV} {r:PV} {cells':List PV} (hm:Qtu P Gl f cells args r cells') {H:List AObj} {a:Nat} (ha:H[a]? = some (.cells (cells.map .p))) {vs:List AV}
  (hvs:FrzL (fun _=>False) H vs args) {k:AV->List AObj->List Nat->List Nat->Prop} (hk:k (.p r) (H.set a (.cells (cells'.map .p))) [a] [a]):Wz P Gl f (.ptr a 0::vs) H k:=by
 refine .inl ⟨[a],[(a,.cells (cells'.map .p))],.p r,fun s hs=>?_,fun H2 hH2=>?_,hk⟩
 ·grind
 refine Qbb hm (hH2 a (by simp) _ ha) (hvs.K (fun _ _ h _=>h.elim)) ⟨rfl,rfl⟩
def Q7 {T:Type} (c:T->List PV) (l:List T):List (List PV):=l.map c
theorem Q6 {T:Type} (c:T->List PV) (l:List T):(Q7 c l).length=l.length:=by simp [Q7]
def Z7l {α β:Type} {l:List α} {i:Int} {y : α} (f : α->β) (h:idx l i=some y):idx (l.map f) i=some (f y):=by
 cases i<;>simp_all [idx]
def idx_rows {T:Type} {c:T->List PV} {l:List T} {i:Int} {y:T} (h:idx l i=some y):idx (Q7 c l) i=some (c y):=Z7l c h
@[reducible] def cI (k:IntKind) (n:Int):List PV := [.int k n]
@[reducible] def cU8 (b:UInt8):List PV := [.int .u8 (b.toNat:Int)]
@[reducible] def cB (b:Bool):List PV := [.bool b]
@[reducible] def cS (b:List UInt8):List PV := [.str b]
@[reducible] def cL {T:Type} (e:Nat) (c:T->List PV) (l:List T):List PV := [.slice e (Q7 c l)]
def wN:Z4v [] []:=trivial
abbrev Q7t (k:IntKind) (x y:Int):Int:=k.wrap (BitVec.ofInt k.bits x &&& BitVec.ofInt k.bits y).toNat
abbrev orI (k:IntKind) (x y:Int):Int:=k.wrap (BitVec.ofInt k.bits x ||| BitVec.ofInt k.bits y).toNat
abbrev Qpz (k:IntKind) (x y:Int):Int:=k.wrap (BitVec.ofInt k.bits x ^^^ BitVec.ofInt k.bits y).toNat
abbrev Q2s (k:IntKind) (x y:Int):Int:=k.wrap (BitVec.ofInt k.bits x &&& ~~~ BitVec.ofInt k.bits y).toNat
abbrev Q8t (k:IntKind) (x y:Int):Int:=k.wrap (x * 2 ^ (min y.toNat k.bits))
abbrev Qcj (k:IntKind) (x y:Int):Int:=x.fdiv (2 ^ (min y.toNat k.bits))
end
end
end Go.Av
