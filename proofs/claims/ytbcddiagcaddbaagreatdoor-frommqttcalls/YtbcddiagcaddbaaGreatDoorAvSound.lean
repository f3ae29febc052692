/- Part of FrommqttCalls: the law returns true; no condition. -/
import Derived.Test.YtbcddiagcaddbaaGreatDoorAvStepSim
import Derived.Deep.LoopGhost
import Derived.Scope
set_option linter.all false
namespace Go.Av
noncomputable section

def Qbc (θ:Th) (S:Nat->Prop) (w:World) (args:List AV) (cargs:Array Value):Prop:=
 cargs.size=args.length∧∀ (i:Nat) v,args[i]? = some v->RelV θ S w v (cargs.getD i Zn)

structure EvoS (θ:Th) (H:List AObj) (w:World) (θ':Th) (H':List AObj) (w':World):Prop extends Evo θ H w θ' H' w' where
 len:H.length≤H'.length
 old:∀ b,b<H.length->θ' b = θ b
theorem EvoS.refl (θ:Th) (H:List AObj) (w:World):EvoS θ H w θ H w:=⟨.refl _ _ _,Lj _,fun _ _=>rfl⟩
theorem EvoS.trans {θ θ' θ'':Th} {H H' H'':List AObj} {w w' w'':World} (h:EvoS θ H w θ' H' w') (k:EvoS θ' H' w' θ'' H'' w''):EvoS θ H w θ'' H'' w'':=
 ⟨h.toEvo.trans k.toEvo,Na h.len k.len,fun b hb=>by rw [k.old b (Nj hb h.len),h.old b hb]⟩
theorem Eff.len (e:Eff) (H:List AObj) (na:Nat):H.length≤(e.apply H na).length:=by
 obtain ⟨s,n⟩:=e;unfold Eff.apply;cases s<;>cases n<;>simp<;>rename_i o
 ·exact (Qbu o).1
 ·rename_i q;have:=(Qbu (H:=H.set q.1 q.2) (na:=na) o).1;simpa using this

def Ue (P:Program) (Gl:Nat->Option (List PV)) (f:Nat) (args:List AV) (H:List AObj) (Q:AV->List AObj->Prop):Prop:=
 Z1s P f=true∧∀ θ w cargs,Qbc θ (Z8 θ H) w args cargs->Hp θ H w->GlobOK Gl θ H w ->
  Calls P f cargs w fun e w'=>∃ r cr H' θ',e = .returned cr∧Q r H'∧RelV θ' (Z8 θ' H') w' r cr∧Hp θ' H' w'∧EvoS θ H w θ' H' w'

def Qkk:CExit->Exit->Prop
 | .normal,.normal=>True
 | .exit i,.exit j=>i=j
 | .ret,.ret=>True
 | _,_=>False

def Z4c (θ:Th) (H:List AObj) (w:World) (Q:CExit->List AV->List AObj->Prop) (e:Exit) (a':Act) (w':World):Prop:=
 ∃ ce tm' H' θ',Qkk ce e∧Q ce tm' H'∧TmOk θ' (Z8 θ' H') w' tm' a'∧Hp θ' H' w'∧EvoS θ H w θ' H' w'

def Qzn (P:Program) (Gl:Nat->Option (List PV)) (code:Code) (tm:List AV) (H:List AObj) (Q:CExit->List AV->List AObj->Prop):Prop:=
 ∀ θ a w,TmOk θ (Z8 θ H) w tm a->Hp θ H w->GlobOK Gl θ H w->code.wp P (Z4c θ H w Q) a w

def Qdu (P:Program) (Gl:Nat->Option (List PV)) (b:CC) (tm:List AV) (H:List AObj) (Q:CExit->List AV->List AObj->Prop):Prop:=
 ∀ code,Ja P code b=true->Qzn P Gl (.loop code) tm H Q
def Qjw (P:Program) (Gl:Nat->Option (List PV)) (ops:List COper) (tm:List AV) (H:List AObj) (k:List AV->List AObj->Prop):Prop:=
 ∀ id (cops:Array Oper),Q57 P cops cops.toList ops=true->P.follows .mixedOrders=true->Qzg cops ops=true->Qzn P Gl (.region id cops true) tm H (fun ce tm' H'=>ce = .normal∧k tm' H')

def Z5z (P:Program) (Gl:Nat->Option (List PV)) (a b:CC) (tm:List AV) (H:List AObj) (Q:CExit->List AV->List AObj->Prop):Prop:=
 ∀ ca cb,Ja P ca a=true->Ja P cb b=true->Qzn P Gl (.seq ca cb) tm H Q
noncomputable def Qxl : {f:Cmp->Int->Int->Bool // f=Q4}:=Classical.choice ⟨⟨Q4,rfl⟩⟩
noncomputable def Qy1 : {f:Cmp->List UInt8->List UInt8->Bool // f=Q1l}:=Classical.choice ⟨⟨Q1l,rfl⟩⟩
noncomputable def Qmr:Cmp->Int->Int->Bool:=Qxl.1
noncomputable def Z7m:Cmp->List UInt8->List UInt8->Bool:=Qy1.1
theorem cmpX_eq:Qmr=Q4:=Qxl.2
theorem cmpY_eq:Z7m=Q1l:=Qy1.2
theorem cX:Q4=Qmr:=cmpX_eq.symm
theorem cY:Q1l=Z7m:=cmpY_eq.symm
noncomputable def EP (P:Program) (Gl:Nat->Option (List PV)):Env Prop := { fail:=False,cmp:=Qxl,scmp:=Qy1,glob:=Gl,call:=Ue P Gl,loop:=Qdu P Gl,join:=Z5z P Gl,draw:=Qjw P Gl }

section
variable {P:Program} {Gl:Nat->Option (List PV)}

theorem TmOk.mono {θ θ':Th} {H H':List AObj} {w w':World} {tm:List AV} {a:Act} (h:TmOk θ (Z8 θ H) w tm a) (e:Evo θ H w θ' H' w'):TmOk θ' (Z8 θ' H') w' tm a:=
 ⟨h.size,fun i v hv=>e.relV (h.val i v hv),h.defers⟩
theorem TmOk.put {θ:Th} {S:Nat->Prop} {w:World} {tm:List AV} {a:Act} (h:TmOk θ S w tm a) (d:Option Nat) {v:AV} {cv:Value} (hv:RelV θ S w v cv) :
  TmOk θ S w (match d with | some d=>tm.set d v | none=>tm) (a.put d cv):=by
 cases d with
 | none=>exact h
 | some d=>
  refine ⟨by simp [Act.put,h.size],fun i x hx=>?_,h.defers⟩;simp only [Act.put];rw [Lw,Ct]
  by_cases hd:d=i
  ·subst hd;have hlt:=(Lb.1 hx).1;simp at hlt;rw [Ls hlt] at hx;cases hx;rw [Af rfl,Af (by rw [h.size];exact hlt)];exact hv
  rw [Ae hd,← Lw];rw [Lp hd] at hx;exact h.val i x hx
theorem TmOk.known {θ:Th} {S:Nat->Prop} {w:World} {tm:List AV} {a:Act} (h:TmOk θ S w tm a) {t:Nat} {b:Bool} (ht:a.tmps.getD t undef = .bool b) :
  TmOk θ S w (tm.set t (.p (.bool b))) a:=by
 refine ⟨by simp [h.size],fun i x hx=>?_,h.defers⟩
 by_cases hd:t=i
 ·subst hd;have hlt:=(Lb.1 hx).1;simp at hlt;rw [Ls hlt] at hx;cases hx;rw [ht];exact Q0n b
 rw [Lp hd] at hx;exact h.val i x hx
theorem Q3x {α:Type} (tm:List AV) (d:Option Nat) (v:AV) (k:List AV->α):put tm d v k=k (match d with | some d=>tm.set d v | none=>tm):=by
 cases d<;>simp [put,Qe4]

theorem Qzt {o:Op} {f:Nat} {args:List Opd} (hk:Qh3 P o (.call f args)=true):∃ cl,o = .call cl∧cl.callee = .value (.func f)∧Yh cl.args.toList args=true:=by
 cases o<;>simp only [Qh3] at hk<;>try (cases hk;done)
 rename_i cl;split at hk
 ·rename_i g hcal;simp only [La,Aj] at hk;obtain ⟨rfl,hk2⟩:=hk;exact ⟨cl,rfl,hcal,hk2⟩
 cases hk
theorem Qx3 {o:Op} {f:Opd} {args:List Opd} (hk:Qh3 P o (.callv f args)=true):∃ cl,o = .call cl∧Yh cl.args.toList args=true ∧
  ((∃ g,cl.callee = .value g∧(Qm g f=true∨∃ tbls i,f = .mm tbls i∧Qm g (.t i)=true∧tbls.all (fun q=>Qb0 P q.1 q.2)=true)) ∨
   (∃ recv name tbl i,cl.callee = .invoke recv name∧f = .m tbl i∧Qm recv (.t i)=true∧Qb0 P name tbl=true)):=by
 cases o<;>simp only [Qh3] at hk<;>try (cases hk;done)
 rename_i cl;split at hk
 ·rename_i g hcal;simp only [La] at hk;refine ⟨cl,rfl,hk.2,.inl ⟨g,hcal,?_⟩⟩;have hk1:=hk.1;split at hk1
  ·simp only [La] at hk1;exact .inr ⟨_,_,rfl,hk1.1,hk1.2⟩
  exact .inl hk1
 ·rename_i recv name hcal;simp only [La] at hk;refine ⟨cl,rfl,hk.2,.inr ?_⟩;have hk1:=hk.1;split at hk1
  ·simp only [La] at hk1;exact ⟨recv,name,_,_,hcal,rfl,hk1.1,hk1.2⟩
  cases hk1
 cases hk
theorem Qp2:∀ (tbl:List (Nat×Nat)) (t f:Nat),Qkj tbl t=some f->(t,f)∈tbl
 | [],t,f,h=>by simp [Qkj] at h
 | (u,g)::r,t,f,h=>by
  unfold Qkj at h
  cases hb:Nat.beq u t with
  | true=>
   rw [hb] at h;simp only [Ai,Lc] at h;have:=No hb;subst this;subst h;simp
  | false=>
   rw [hb] at h;simp only [Ah] at h;simp [Qp2 r t f h]
theorem Qz6 {name:String} {tbl:List (Nat×Nat)} (hm:Qb0 P name tbl=true) {t f:Nat} (hf:Qkj tbl t=some f) (w:World) (v:Value) (n:Nat):(method (n+1) t v name).run P w = .ok (f,v) w:=by
 have h1:=(Me.1 hm) _ (Qp2 tbl t f hf)
 simp only at h1
 cases hi:P.info? t with
 | none=>simp [hi] at h1
 | some i=>
  simp only [hi,My] at h1
  cases hfd:i.methods.find? (·.name == name) with
  | none=>simp [hfd] at h1
  | some m=>
   simp only [hfd,My,La] at h1;obtain ⟨h2,h3⟩:=h1
   have hp:m.path.toList = []:=by simpa using h2
   have hti:(typeInfo t).run P w = .ok i w:=run_typeInfo w hi;unfold method;simp only [Sem.run_bind,hti,Result.andThen,hfd,hp,follow,Sem.run_pure]
   cases hmf:m.func with
   | none=>simp [hmf] at h3
   | some q=>
    obtain ⟨g,b⟩:=q
    cases hu:P.underlying t with
    | none=>cases b<;>simp [hmf,hu] at h3
    | some d=>
     simp only [receiverAt,Sem.run_bind,run_underlying hu,Result.andThen];rw [hmf,hu] at h3;cases b<;>cases d<;>simp at h3<;>subst h3<;>rfl
theorem Qmo (A B:List Value) (i:Nat) (d:Value):(A++B).getD i d=if i<A.length then A.getD i d else B.getD (i - A.length) d:=by
 rw [Lg];split
 ·rename_i h;rw [Lr h,Lg]
 rename_i h;rw [Ly (by omega),Lg]
def RelL (θ:Th) (S:Nat->Prop) (w:World) (cs:List AV) (vs:List Value):Prop:=vs.length=cs.length∧∀ (i:Nat) x,cs[i]? = some x->RelV θ S w x (vs.getD i Zn)
theorem RelL.append {θ:Th} {S:Nat->Prop} {w:World} {cs ds:List AV} {vs us:List Value} (r:RelL θ S w cs vs) (q:RelL θ S w ds us):RelL θ S w (cs++ds) (vs++us):=by
 refine ⟨by simp [r.1,q.1],fun i x hx=>?_⟩;rw [Qmo,r.1]
 by_cases hi:i<cs.length
 ·rw [Lr hi] at hx;rw [Af hi];exact r.2 i x hx
 rw [Ly (by omega)] at hx;rw [Ae hi];exact q.2 _ x hx
theorem RelL.args {θ:Th} {S:Nat->Prop} {w:World} {cs:List AV} {vs:List Value} (r:RelL θ S w cs vs):Qbc θ S w cs vs.toArray:=
 ⟨by simpa using r.1,fun i x hx=>by rw [Wm];exact r.2 i x hx⟩
theorem RelL.ofP {θ:Th} {S:Nat->Prop} {w:World} {cs:List PV} {vs:List Value} (h1:vs.length=cs.length) (h2:∀ (i:Nat) x,cs[i]? = some x->RelP S w x (vs.getD i Zn)):RelL θ S w (cs.map .p) vs:=
 ⟨by simp [h1],fun i x hx=>by
  rw [Lo] at hx
  cases hc:cs[i]? with
  | none=>rw [hc] at hx;cases hx
  | some y=>rw [hc] at hx;cases hx;exact .p _ _ (h2 i y hc)⟩

theorem Znc (x:Value) (A:Array Value):(#[x]++A).extract 1 (#[x]++A).size=A:=by
 apply Array.ext';rw [Array.toList_extract,Array.toList_append];simp [List.extract,List.take_of_length_le]
theorem Zlw (x:Value) (A:Array Value):(#[x]++A)[0]? = some x:=by
 rw [Array.getElem?_append];simp
theorem Qq2 (tbls:List (String×List (Nat×Nat))) (vf:AV):(∃ n v,vf = .func (.method n) [v] []∧Qqt tbls vf=Qne (Qkn tbls n) v) ∨
  (∃ n v,vf = .p (.func (.method n) [v] [])∧Qqt tbls vf=Qne (Qkn tbls n) (.p v))∨Qqt tbls vf=vf:=by
 unfold Qqt;split
 ·exact .inl ⟨_,_,rfl,rfl⟩
 ·exact .inr (.inl ⟨_,_,rfl,rfl⟩)
 exact .inr (.inr rfl)
theorem Qpa {nm:String}:∀ (tbls:List (String×List (Nat×Nat))),tbls.all (fun q=>Qb0 P q.1 q.2)=true->Qb0 P nm (Qkn tbls nm)=true
 | [],_=>rfl
 | (n',t')::r,h=>by
  simp only [List.all_cons,La] at h;unfold Qkn
  cases hb:n' == nm with
  | true=>have:=eq_of_beq hb;subst this;exact h.1
  | false=>exact Qpa r h.2
def Qei (C:Nat->List AV->Prop) (tm:List AV):COp->Prop
 | .call f args=>C f (args.map (Qb tm))
 | .callv f args=>match Qb tm f with
  | .func (.func f) first captured=>C f (first++(args.map (Qb tm)++captured))
  | .p (.func (.func f) first captured)=>C f (first.map .p++(args.map (Qb tm)++captured.map .p))
  | _=>False
 | _=>False
theorem Qpj {θ:Th} {H:List AObj} {w:World} {a:Act} {tm:List AV} (hT:TmOk θ (Z8 θ H) w tm a) {o:Oper} {c:COp} (hk:Qh3 P o.op c=true) (hc:c.isCall=true)
  {K:Act->World->Prop} {Q:Exit->Act->World->Prop} {C:Nat->List AV->Prop}
  (hC:∀ f args,C f args->Z1s P f=true∧∀ cargs,Qbc θ (Z8 θ H) w args cargs->Calls P f cargs w fun e w'=>∃ cr,e = .returned cr∧K (a.put o.dst cr) w')
  (h:Qei C tm c):o.wp P a w K Q:=by
 have fin:∀ (f:Nat) (args:List AV) (cargs:Array Value),C f args->Qbc θ (Z8 θ H) w args cargs->((execOp a.eval o).run P w = .ok (.enter f cargs) w)->o.wp P a w K Q:=by
  intro f args cargs hcall hargs hrun;unfold Oper.wp;rw [hrun];refine ((hC f args hcall).2 cargs hargs).mono ?_
  rintro e w' ⟨cr,rfl,q⟩
  exact q
 have enter:∀ (f:Nat) (cargs:Array Value),Z1s P f=true->(callFunc f cargs).run P w = .ok (.enter f cargs) w:=by
  intro f cargs hf;unfold Z1s at hf
  cases hfn:P.funcs[f]? with
  | none=>simp [hfn] at hf
  | some fn=>
   simp only [hfn,My,La,bne_iff_ne,ne_eq] at hf;obtain ⟨hb,hn⟩:=hf
   have hb':fn.body.isNone=false:=by cases hbb:fn.body<;>simp_all
   have hn':(fn.name == "runtime.NumGoroutine")=false:=by simpa using hn
   have hpr:(program).run P w = .ok P w:=rfl;simp only [callFunc,Sem.run_bind,hpr,Result.andThen,hfn,hn',hb'];rfl
 obtain ⟨dst,op,ty,pos,aft,gd⟩:=o;cases c
 case call f args=>
  obtain ⟨cl,rfl,hcal,hk2⟩:=Qzt hk;simp only [Qei] at h;have ha:=Qfy hT _ _ hk2;have hrl:RelL θ (Z8 θ H) w (args.map (Qb tm)) (cl.args.toList.map a.eval):=⟨by simp [ha.1],ha.2⟩
  have e:cl.args.map a.eval=(cl.args.toList.map a.eval).toArray:=by apply Array.ext';simp
  refine fin f _ (cl.args.map a.eval) h (by rw [e];exact hrl.args) ?_;have:=enter f (cl.args.map a.eval) (hC _ _ h).1;simp [execOp,resolve,hcal,Act.eval,Deferred.ofValue,invoke];simpa using this
 case callv f args=>
  obtain ⟨cl,rfl,hk2,hk1⟩:=Qx3 hk;simp only [Qei] at h;have ha:=Qfy hT _ _ hk2;have hrl:RelL θ (Z8 θ H) w (args.map (Qb tm)) (cl.args.toList.map a.eval):=⟨by simp [ha.1],ha.2⟩
  -- a method of an interface value
  have mkey:∀ (name:String) (tbl:List (Nat×Nat)) (vr:AV) (cr:Value),Qb0 P name tbl=true->RelV θ (Z8 θ H) w vr cr->(match Qne tbl vr with
    | .func (.func f) first captured=>C f (first++(args.map (Qb tm)++captured))
    | .p (.func (.func f) first captured)=>C f (first.map .p++(args.map (Qb tm)++captured.map .p))
    | _=>False)->∃ fid t cv,cr = .iface t cv∧((callMethod cr name (cl.args.map a.eval)).run P w = .ok (.enter fid (#[cv]++cl.args.map a.eval)) w)∧∃ av,RelV θ (Z8 θ H) w av cv∧C fid (av::args.map (Qb tm)):=by
   intro name tbl vr cr hm hr h
   have go:∀ (t:Nat) (av:AV) (cv:Value) (fid:Nat),cr = .iface t cv->RelV θ (Z8 θ H) w av cv->Qkj tbl t=some fid->C fid (av::args.map (Qb tm)) ->
     ∃ fid t cv,cr = .iface t cv∧((callMethod cr name (cl.args.map a.eval)).run P w = .ok (.enter fid (#[cv]++cl.args.map a.eval)) w)∧∃ av,RelV θ (Z8 θ H) w av cv∧C fid (av::args.map (Qb tm)):=by
    intro t av cv fid e1 e2 e3 e4;refine ⟨fid,t,cv,e1,?_,av,e2,e4⟩;subst e1;have hpr:(program).run P w = .ok P w:=rfl;have hmr:=Qz6 hm e3 w cv (P.types.size+(Made.depth - 1));have hd:P.types.size+(Made.depth - 1)+1=P.types.size+Made.depth:=rfl;rw [hd] at hmr;simp only [callMethod,Sem.run_bind,hpr,Result.andThen,hmr,enter fid _ (hC _ _ e4).1]
   cases vr<;>simp only [Qne] at h<;>try exact h.elim
   ·rename_i x
    cases x<;>simp only at h<;>try exact h.elim
    rename_i t x
    cases hr with
    | p _ _ hp=>
     cases hp with
     | iface _ _ cv hq=>
      cases hf:Qkj tbl t with
      | none=>rw [hf] at h;exact h.elim
      | some fid=>rw [hf] at h;simp only [Lu] at h;exact go t (.p x) cv fid rfl (.p _ _ hq) hf h
   rename_i t x
   cases hr with
   | iface _ _ cv hq=>
    cases hf:Qkj tbl t with
    | none=>rw [hf] at h;exact h.elim
    | some fid=>rw [hf] at h;simp only [Lu] at h;exact go t x cv fid rfl hq hf h
  rcases hk1 with ⟨g,hcal,hk1⟩ | ⟨recv,name,tbl,i,hcal,rfl,hk1,hm⟩
  rotate_left
  ·-- invoke
   have hrf:=Z4 hT hk1;obtain ⟨fid,t,cv,e1,e2,av,e3,e4⟩:=mkey name tbl (Qb tm (.t i)) (a.eval recv) hm hrf h
   have e : #[cv]++cl.args.map a.eval=((cv::cl.args.toList.map a.eval)).toArray:=by apply Array.ext';simp
   have hr1:RelL θ (Z8 θ H) w (av::args.map (Qb tm)) (cv::cl.args.toList.map a.eval):=by
    have:=(show RelL θ (Z8 θ H) w [av] [cv] from ⟨rfl,fun i x hx=>by
     match i with
     | 0=>simp at hx;subst hx;exact e3
     | i+1=>simp at hx⟩).append hrl
    exact this
   refine fin fid _ (#[cv]++cl.args.map a.eval) e4 (by rw [e];exact hr1.args) ?_;have hx:(#[a.eval recv]++cl.args.map a.eval).extract 1 (#[a.eval recv]++cl.args.map a.eval).size=cl.args.map a.eval:=Znc _ _;simp only [execOp,resolve,hcal,Sem.run_bind,Sem.run_pure,Result.andThen,invoke];have h0:(#[a.eval recv]++cl.args.map a.eval)[0]? = some (a.eval recv):=Zlw _ _;simp only [h0,hx,e2]
  rcases hk1 with hk1 | ⟨tbls,i,rfl,hk1,hms⟩
  rotate_left
  ·-- a value that may be a bound method
   have hrf:=Z4 hT hk1
   have hbm:∀ (nm:String) (vr:AV) (A B:Array Value) (cr:Value),a.eval g = .func (.method nm) A B->A = #[cr]->B = #[]->RelV θ (Z8 θ H) w vr cr->(match Qne (Qkn tbls nm) vr with
    | .func (.func f) first captured=>C f (first++(args.map (Qb tm)++captured))
    | .p (.func (.func f) first captured)=>C f (first.map .p++(args.map (Qb tm)++captured.map .p))
    | _=>False)->Oper.wp P ⟨dst,.call cl,ty,pos,aft,gd⟩ a w K Q:=by
    intro nm vr A B cr hg hA hB hr h;subst hA hB;have hm:Qb0 P nm (Qkn tbls nm)=true:=Qpa tbls hms;obtain ⟨fid,t,cv,e1,e2,av,e3,e4⟩:=mkey nm (Qkn tbls nm) vr cr hm hr h
    have e : #[cv]++cl.args.map a.eval=((cv::cl.args.toList.map a.eval)).toArray:=by apply Array.ext';simp
    have hr1:RelL θ (Z8 θ H) w (av::args.map (Qb tm)) (cv::cl.args.toList.map a.eval):=
     (show RelL θ (Z8 θ H) w [av] [cv] from ⟨rfl,fun i x hx=>by
      match i with
      | 0=>simp at hx;subst hx;exact e3
      | i+1=>simp at hx⟩).append hrl
    refine fin fid _ (#[cv]++cl.args.map a.eval) e4 (by rw [e];exact hr1.args) ?_;have hx:(#[cr]++cl.args.map a.eval).extract 1 (#[cr]++cl.args.map a.eval).size=cl.args.map a.eval:=Znc _ _;have h0:(#[cr]++cl.args.map a.eval)[0]? = some cr:=Zlw _ _;simp only [execOp,resolve,hcal,hg,Deferred.ofValue,Sem.run_bind,Sem.run_pure,Result.andThen,invoke,h0,hx,e2]
   have e0:Qb tm (.mm tbls i)=Qqt tbls (Qb tm (.t i)):=rfl;rw [e0] at h
   have key:(∃ fid A B first captured,a.eval g = .func (.func fid) A B∧RelL θ (Z8 θ H) w first A.toList∧RelL θ (Z8 θ H) w captured B.toList∧C fid (first++(args.map (Qb tm)++captured)))∨Oper.wp P ⟨dst,.call cl,ty,pos,aft,gd⟩ a w K Q:=by
    generalize Qb tm (.t i)=vf at h hrf;generalize hag:a.eval g=ag at hrf
    rcases Qq2 tbls vf with ⟨n,v,rfl,e⟩ | ⟨n,v,rfl,e⟩ | e<;>rw [e] at h
    ·cases hrf with
     | func _ _ _ A B hA hB hav hbv=>
      obtain ⟨cr,rfl⟩:=Array.size_eq_one_iff.1 (show A.size=1 by simpa using hA);have hB':B = #[]:=Nn (by simpa using hB);exact .inr (hbm _ _ _ _ cr hag rfl hB' (by simpa using hav 0 _ rfl) h)
    ·cases hrf with
     | p _ _ hp=>
      cases hp with
      | func _ _ _ A B hA hB hav hbv=>
       obtain ⟨cr,rfl⟩:=Array.size_eq_one_iff.1 (show A.size=1 by simpa using hA);have hB':B = #[]:=Nn (by simpa using hB);exact .inr (hbm _ _ _ _ cr hag rfl hB' (.p _ _ (by simpa using hav 0 _ rfl)) h)
    left;split at h
    ·cases hrf with
     | func _ _ _ A B hA hB hav hbv=>
      exact ⟨_,A,B,_,_,rfl,⟨by simpa using hA,fun i x hx=>by rw [← Wm];exact hav i x hx⟩,⟨by simpa using hB,fun i x hx=>by rw [← Wm];exact hbv i x hx⟩,h⟩
    ·cases hrf with
     | p _ _ hp=>
      cases hp with
      | func _ _ _ A B hA hB hav hbv=>
       exact ⟨_,A,B,_,_,rfl,.ofP (by simpa using hA) (fun i x hx=>by rw [← Wm];exact hav i x hx),.ofP (by simpa using hB) (fun i x hx=>by rw [← Wm];exact hbv i x hx),h⟩
    exact h.elim
   rcases key with ⟨fid,A,B,first,captured,hg,hA,hB,hcall⟩ | hw
   ·have e:A++cl.args.map a.eval++B=(A.toList++(cl.args.toList.map a.eval++B.toList)).toArray:=by
     apply Array.ext';simp
    refine fin fid _ (A++cl.args.map a.eval++B) hcall (by rw [e];exact (hA.append (hrl.append hB)).args) ?_;have:=enter fid (A++cl.args.map a.eval++B) (hC _ _ hcall).1;simp [execOp,resolve,hcal,hg,Deferred.ofValue,invoke];simpa using this
   exact hw
  have hrf:=Z4 hT hk1
  have key:∃ fid A B first captured,a.eval g = .func (.func fid) A B∧RelL θ (Z8 θ H) w first A.toList∧RelL θ (Z8 θ H) w captured B.toList∧C fid (first++(args.map (Qb tm)++captured)):=by
   generalize Qb tm f=vf at h hrf;split at h
   ·generalize a.eval g=ag at hrf
    cases hrf with
    | func _ _ _ A B hA hB hav hbv=>
     exact ⟨_,A,B,_,_,rfl,⟨by simpa using hA,fun i x hx=>by rw [← Wm];exact hav i x hx⟩,⟨by simpa using hB,fun i x hx=>by rw [← Wm];exact hbv i x hx⟩,h⟩
   ·generalize a.eval g=ag at hrf
    cases hrf with
    | p _ _ hp=>
     cases hp with
     | func _ _ _ A B hA hB hav hbv=>
      exact ⟨_,A,B,_,_,rfl,.ofP (by simpa using hA) (fun i x hx=>by rw [← Wm];exact hav i x hx),.ofP (by simpa using hB) (fun i x hx=>by rw [← Wm];exact hbv i x hx),h⟩
   exact h.elim
  obtain ⟨fid,A,B,first,captured,hg,hA,hB,hcall⟩:=key
  have e:A++cl.args.map a.eval++B=(A.toList++(cl.args.toList.map a.eval++B.toList)).toArray:=by
   apply Array.ext';simp
  refine fin fid _ (A++cl.args.map a.eval++B) hcall (by rw [e];exact (hA.append (hrl.append hB)).args) ?_;have:=enter fid (A++cl.args.map a.eval++B) (hC _ _ hcall).1;simp [execOp,resolve,hcal,hg,Deferred.ofValue,invoke];simpa using this
 all_goals simp [COp.isCall] at hc
theorem Qgx {θ:Th} {H:List AObj} {w:World} {a:Act} {tm:List AV} (hT:TmOk θ (Z8 θ H) w tm a) (hH:Hp θ H w) (hG:GlobOK Gl θ H w) {o:Oper} {c:COp} (hk:Qh3 P o.op c=true)
  {k:AV->List AObj->Prop} (h:Q2k (EP P Gl) tm H k c) {K:Act->World->Prop} {Q:Exit->Act->World->Prop}
  (hK:∀ v cv H' θ' w',k v H'->RelV θ' (Z8 θ' H') w' v cv->Hp θ' H' w'->EvoS θ H w θ' H' w'->K (a.put o.dst cv) w'):o.wp P a w K Q:=by
 by_cases hc:c.isCall=false
 ·rw [Qjo _ _ _ _ _ hc] at h
  cases hs:Zf Gl tm H H.length c with
  | none=>rw [show (EP P Gl).glob=Gl from rfl,hs] at h;exact h.elim
  | some ve=>
   obtain ⟨v,e⟩:=ve;rw [show (EP P Gl).glob=Gl from rfl,hs] at h;obtain ⟨cv,w',θ',hr,h1,h2,h3',h4,h5⟩:=Qsp hT hH hG (.inl rfl) hk hc hs;have h3:EvoS θ H w θ' (e.apply H H.length) w':=⟨h3',e.len _ _,fun b hb=>h4 b (by omega)⟩;unfold Oper.wp
   rcases hr with hr | ⟨hr,rfl⟩
   ·rw [hr];exact hK v cv _ θ' w' h h1 h2 h3
   rw [hr];exact hK v undef _ θ' w' h h1 h2 h3
 refine Qpj hT hk (by simpa using hc) (C:=fun f args=>Ue P Gl f args H k) (fun f args hcall=>⟨hcall.1,fun cargs hargs=>(hcall.2 θ w cargs hargs hH hG).mono ?_⟩) ?_
 ·rintro e w' ⟨r,cr,H',θ',rfl,q1,q2,q3,q4⟩
  exact ⟨cr,rfl,hK r cr H' θ' w' q1 q2 q3 q4⟩
 cases c<;>try (simp [COp.isCall] at hc;done)
 ·simp only [Q2k,Qn9,Q3m] at h;exact h
 simp only [Q2k,Qfw,Q3m,Zg,Q5i,J8] at h;simp only [Qei];exact h
theorem Qcz {θ:Th} {S:Nat->Prop} {w:World} {tm:List AV} {a:Act} (hT:TmOk θ S w tm a) {t:Nat} {v:AV} (hv:tm.getD t .any=v) (hne:v ≠ .any) :
  ∃ cv,a.tmps[t]? = some cv∧a.tmps.getD t undef=cv∧RelV θ S w v cv:=by
 cases ht:tm[t]? with
 | none=>rw [Lg,ht] at hv;exact absurd hv.symm hne
 | some u=>
  rw [Lg,ht] at hv;simp at hv;subst hv;have hlt:=(Lb.1 ht).1;rw [← hT.size] at hlt;have h1:=hT.val t _ ht;refine ⟨a.tmps[t],Mv hlt,?_,?_⟩
  ·rw [Lw,Mv hlt];rfl
  ·rw [Lw,Mv hlt] at h1;exact h1

theorem Qje (ops:Array Oper) {θ0:Th} {H0:List AObj} {w0:World} {k:List AV->List AObj->Prop} (hG0:GlobOK Gl θ0 H0 w0) {Q:Exit->Act->World->Prop}
  (hQ:∀ tm' H' θ' a' w',k tm' H'->TmOk θ' (Z8 θ' H') w' tm' a'->Hp θ' H' w'->EvoS θ0 H0 w0 θ' H' w'->Q .normal a' w'):∀ (os:List Oper) (cs:List COper),Q57 P ops os cs=true->∀ tm H,Q8g (EP P Gl) k cs tm H ->
  ∀ θ a w,EvoS θ0 H0 w0 θ H w->TmOk θ (Z8 θ H) w tm a->Hp θ H w ->
  wpList P ops Q os a w
 | [],[],_,tm,H,h,θ,a,w,hE,hT,hH=>hQ tm H θ a w h hT hH hE
 | o::os,c::cs,hk,tm,H,h,θ,a,w,hE,hT,hH=>by
  simp only [Q57,La,Aj] at hk;obtain ⟨⟨⟨hd,hop⟩,hg⟩,hrest⟩:=hk;have hG:=hG0.evo hE.toEvo
  have run:∀ tm1,TmOk θ (Z8 θ H) w tm1 a->Q2k (EP P Gl) tm1 H (fun v hp=>put tm1 c.dst v fun tm=>Q8g (EP P Gl) k cs tm hp) c.op->Region.wanted o (yielded ops a.tmps)=true ->
    wpList P ops Q (o::os) a w:=by
   intro tm1 hT1 hev hw;unfold wpList;rw [Af hw];refine .inl (Qgx hT1 hH hG hop hev (fun v cv H' θ' w' hkv hrv hH' hE'=>?_));rw [Q3x] at hkv;exact Qje ops hG0 hQ os cs hrest _ H' hkv θ' _ w' (hE.trans hE') (by rw [hd];exact (hT1.mono hE'.toEvo).put c.dst hrv) hH'
  have skip:∀ tm1,TmOk θ (Z8 θ H) w tm1 a->(put tm1 c.dst Jd fun tm=>Q8g (EP P Gl) k cs tm H)->Region.wanted o (yielded ops a.tmps)=false ->
    wpList P ops Q (o::os) a w:=by
   intro tm1 hT1 hev hw;unfold wpList;rw [Ae (by rw [hw];simp)];rw [Q3x] at hev;exact Qje ops hG0 hQ os cs hrest _ H hev θ _ w hE (by rw [hd];exact hT1.put c.dst Q82) hH
  simp only [Qgd] at h
  cases hgc:c.guard with
  | none=>
   rw [hgc] at h hg
   cases hgo:o.guard with
   | some jb=>rw [hgo] at hg;simp [Q0q] at hg
   | none=>exact run tm hT h (by simp [Region.wanted,hgo])
  | some tb=>
   obtain ⟨t,want⟩:=tb;rw [hgc] at h hg
   cases hgo:o.guard with
   | none=>rw [hgo] at hg;simp [Q0q] at hg
   | some jb=>
    obtain ⟨j,b⟩:=jb;rw [hgo] at hg;simp only [Q0q,La,Aj] at hg;obtain ⟨rfl,hj⟩:=hg;simp only [Q84] at h;generalize hvt:tm.getD t .any=vt at h;split at h
    ·rename_i x;obtain ⟨cv,e1,e2,e3⟩:=Qcz hT hvt (by simp);have:=Qc6 e3;subst this;have hk1:=hT.known e2
     have hy':yielded ops a.tmps j=some x:=by unfold yielded;rw [hj];simp only [Ll,e1]
     simp only [Qe4,Q67] at h;cases x<;>cases b<;>simp only [Ak,Al,Mg] at h
     ·exact run _ hk1 (by simpa using h) (by simp [Region.wanted,hgo,hy'])
     ·exact skip _ hk1 (by simpa using h) (by simp [Region.wanted,hgo,hy'])
     ·exact skip _ hk1 (by simpa using h) (by simp [Region.wanted,hgo,hy'])
     exact run _ hk1 (by simpa using h) (by simp [Region.wanted,hgo,hy'])
    ·obtain ⟨cv,e1,e2,e3⟩:=Qcz hT hvt (by simp)
     have hcv:cv = .tuple #[]:=by
      cases e3 with
      | p _ _ hp=>
       cases hp with
       | tuple _ C hn hv=>
        have:C = #[]:=by apply Nn;simpa using hn
        rw [this]
     have hy':yielded ops a.tmps j=none:=by unfold yielded;rw [hj];simp only [Ll,e1,hcv]
     exact skip _ hT h (by simp [Region.wanted,hgo,hy'])
    exact h.elim
 | [],_::_,hk,_,_,_,_,_,_,_,_,_=>by simp [Q57] at hk
 | _::_,[],hk,_,_,_,_,_,_,_,_,_=>by simp [Q57] at hk

theorem Qf7:∀ (code:Code) (c:CC),Ja P code c=true->∀ tm H Q,ev (EP P Gl) c tm H Q->Qzn P Gl code tm H Q
 | .label _,.skip,_,tm,H,Q,h=>fun θ a w hT hH hG=>wp_label ⟨.normal,tm,H,θ,trivial,h,hT,hH,.refl _ _ _⟩
 | .skip,.skip,_,tm,H,Q,h=>fun θ a w hT hH hG=>wp_skip ⟨.normal,tm,H,θ,trivial,h,hT,hH,.refl _ _ _⟩
 | .exit id,.exit id',hk,tm,H,Q,h=>fun θ a w hT hH hG=>by
  simp only [Ja,Aj] at hk;subst hk;exact wp_exit ⟨.exit id,tm,H,θ,rfl,h,hT,hH,.refl _ _ _⟩
 | .ret,.ret,_,tm,H,Q,h=>fun θ a w hT hH hG=>wp_ret ⟨.ret,tm,H,θ,trivial,h,hT,hH,.refl _ _ _⟩
 | .region id ops d,.region d' cs,hk,tm,H,Q,h=>fun θ a w hT hH hG=>by
  simp only [Ja,La,Aj] at hk;obtain ⟨⟨rfl,hk⟩,hst⟩:=hk
  cases d with
  | false=>
   exact wp_region_list (Qje ops hG (fun tm' H' θ' a' w' h1 h2 h3 h4=>⟨.normal,tm',H',θ',trivial,h1,h2,h3,h4⟩) ops.toList cs hk tm H h θ a w (.refl _ _ _) hT hH)
  | true=>
   simp only [Bw,Dk,La] at hst;refine wp_mono (h id ops hk hst.1 hst.2 θ a w hT hH hG) ?_
   rintro e a' w' ⟨ce,tm',H',θ',h1,⟨rfl,h2⟩,h3,h4,h5⟩
   exact ⟨.normal,tm',H',θ',h1,h2,h3,h4,h5⟩
 | .seq x y,.seq x' y',hk,tm,H,Q,h=>fun θ a w hT hH hG=>by
  simp only [Ja,La] at hk;refine wp_seq (wp_mono (Qf7 x x' hk.1 tm H _ h θ a w hT hH hG) ?_)
  rintro e a' w' ⟨ce,tm',H',θ',h1,h2,h3,h4,h5⟩
  cases ce<;>cases e<;>simp only [Qkk] at h1
  ·refine wp_mono (Qf7 y y' hk.2 tm' H' _ h2 θ' a' w' h3 h4 (hG.evo h5.toEvo)) ?_
   rintro e a'' w'' ⟨ce,tm'',H'',θ'',q1,q2,q3,q4,q5⟩
   exact ⟨ce,tm'',H'',θ'',q1,q2,q3,q4,h5.trans q5⟩
  ·subst h1;exact ⟨.exit _,tm',H',θ',rfl,h2,h3,h4,h5⟩
  exact ⟨.ret,tm',H',θ',trivial,h2,h3,h4,h5⟩
 | .cond c x y,.cond c' x' y',hk,tm,H,Q,h=>fun θ a w hT hH hG=>by
  simp only [Ja,La] at hk;obtain ⟨⟨h1,h2⟩,h3⟩:=hk;simp only [Qv2,Zg] at h;have hr:=Z4 hT h1;generalize Qb tm c'=vc at h hr;split at h
  ·rename_i b;refine wp_cond (Qc6 hr) ?_;rw [Q67] at h;cases b
   ·exact Qf7 y y' h3 tm H Q (by simpa using h) θ a w hT hH hG
   exact Qf7 x x' h2 tm H Q (by simpa using h) θ a w hT hH hG
  exact h.elim
 | .block id b,.block id' b',hk,tm,H,Q,h=>fun θ a w hT hH hG=>by
  simp only [Ja,La,Aj] at hk;obtain ⟨rfl,hk⟩:=hk;refine wp_block (wp_mono (Qf7 b b' hk tm H _ h θ a w hT hH hG) ?_)
  rintro e a' w' ⟨ce,tm',H',θ',h1,h2,h3,h4,h5⟩
  cases ce<;>cases e<;>simp only [Qkk] at h1
  ·exact ⟨.normal,tm',H',θ',trivial,h2,h3,h4,h5⟩
  ·subst h1;rename_i i;simp only [Q67] at h2;show (if i=id then _ else _)
   by_cases hi:i=id
   ·subst hi;rw [Af rfl];simp only [De,Ak] at h2;exact ⟨.normal,tm',H',θ',trivial,h2,h3,h4,h5⟩
   rw [Ae hi]
   have:Nat.beq i id=false:=by rw [← Nu,Bv];exact hi
   simp only [this] at h2;exact ⟨.exit i,tm',H',θ',rfl,h2,h3,h4,h5⟩
  exact ⟨.ret,tm',H',θ',trivial,h2,h3,h4,h5⟩
 | .loop b,.loop b',hk,tm,H,Q,h=>h b (by simpa [Ja] using hk)
 | .seq x y,.join x' y',hk,tm,H,Q,h=>by
  simp only [Ja,La] at hk;exact h x y hk.1 hk.2
 | .scope b,b',hk,tm,H,Q,h=>fun θ a w hT hH hG=>by
  have hk:Ja P b b'=true:=by simpa only [Ja] using hk
  refine wp_scope_straight (wp_mono (Qf7 b b' hk tm H Q h θ a w hT hH hG) ?_)
  rintro e a' w' hp
  cases e with
  | goto l=>obtain ⟨ce,_,_,_,h1,_⟩:=hp;cases ce<;>simp [Qkk] at h1
  | _=>exact hp
 | _,.cond (.c .nilPtr) .skip .skip,_,tm,H,Q,h=>(show False from h).elim
 | .skip,.exit _,hk,_,_,_,_=>by simp [Ja] at hk
theorem Y1 {a b:CC} {tm:List AV} {H:List AObj} {Q:CExit->List AV->List AObj->Prop} (h:ev (EP P Gl) a tm H fun e tm H=>match e with
  | .normal=>ev (EP P Gl) b tm H Q
  | .exit i=>Q (.exit i) tm H
  | .ret=>Q .ret tm H):Z5z P Gl a b tm H Q:=
 fun ca cb ha hb=>Qf7 (.seq ca cb) (.seq a b) (by simp [Ja,ha,hb]) tm H Q h
end
end
end Go.Av
