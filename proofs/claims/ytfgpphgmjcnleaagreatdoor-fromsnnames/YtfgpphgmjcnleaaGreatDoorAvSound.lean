/- Part of FromsnNames: the law returns true; no condition. -/
import Derived.Test.YtfgpphgmjcnleaaGreatDoorAvStepSim
import Derived.Deep.LoopGhost
import Derived.Scope
set_option linter.all false
namespace Go.Av
noncomputable section

def Q01 (θ:Th) (S:Nat->Prop) (w:World) (args:List AV) (cargs:Array Value):Prop:=
 cargs.size=args.length∧∀ (i:Nat) v,args[i]? = some v->RelV θ S w v (cargs.getD i Qc)

structure EvoS (θ:Th) (H:List AObj) (w:World) (θ':Th) (H':List AObj) (w':World):Prop extends Evo θ H w θ' H' w' where
 len:H.length≤H'.length
 old:∀ b,b<H.length->θ' b = θ b
theorem EvoS.refl (θ:Th) (H:List AObj) (w:World):EvoS θ H w θ H w:=⟨.refl _ _ _,Lj _,fun _ _=>rfl⟩
theorem EvoS.trans {θ θ' θ'':Th} {H H' H'':List AObj} {w w' w'':World} (h:EvoS θ H w θ' H' w') (k:EvoS θ' H' w' θ'' H'' w''):EvoS θ H w θ'' H'' w'':=
 ⟨h.toEvo.trans k.toEvo,Nk h.len k.len,fun b hb=>by rw [k.old b (Me hb h.len),h.old b hb]⟩
theorem Eff.len (e:Eff) (H:List AObj) (na:Nat):H.length≤(e.apply H na).length:=by
 obtain ⟨s,n⟩:=e;unfold Eff.apply;cases s<;>cases n<;>simp<;>rename_i o
 ·exact (Q3p o).1
 ·rename_i q;have:=(Q3p (H:=H.set q.1 q.2) (na:=na) o).1;simpa using this

def Q8 (P:Program) (Gl:Nat->Option (List PV)) (f:Nat) (args:List AV) (H:List AObj) (Q:AV->List AObj->Prop):Prop:=
 Qd0 P f=true∧∀ θ w cargs,Q01 θ (Qe θ H) w args cargs->Hp θ H w->GlobOK Gl θ H w ->
  Calls P f cargs w fun e w'=>∃ r cr H' θ',e = .returned cr∧Q r H'∧RelV θ' (Qe θ' H') w' r cr∧Hp θ' H' w'∧EvoS θ H w θ' H' w'

def Qba:CExit->Exit->Prop
 | .normal,.normal=>True
 | .exit i,.exit j=>i=j
 | .ret,.ret=>True
 | _,_=>False

def Qp0 (θ:Th) (H:List AObj) (w:World) (Q:CExit->List AV->List AObj->Prop) (e:Exit) (a':Act) (w':World):Prop:=
 ∃ ce tm' H' θ',Qba ce e∧Q ce tm' H'∧TmOk θ' (Qe θ' H') w' tm' a'∧Hp θ' H' w'∧EvoS θ H w θ' H' w'

def Qo2 (P:Program) (Gl:Nat->Option (List PV)) (code:Code) (tm:List AV) (H:List AObj) (Q:CExit->List AV->List AObj->Prop):Prop:=
 ∀ θ a w,TmOk θ (Qe θ H) w tm a->Hp θ H w->GlobOK Gl θ H w->code.wp P (Qp0 θ H w Q) a w

def Q3g (P:Program) (Gl:Nat->Option (List PV)) (b:CC) (tm:List AV) (H:List AObj) (Q:CExit->List AV->List AObj->Prop):Prop:=
 ∀ code,Ye P code b=true->Qo2 P Gl (.loop code) tm H Q
def Q27 (P:Program) (Gl:Nat->Option (List PV)) (ops:List COper) (tm:List AV) (H:List AObj) (k:List AV->List AObj->Prop):Prop:=
 ∀ id (cops:Array Oper),J2 P cops cops.toList ops=true->P.follows .mixedOrders=true->Qgh cops ops=true->Qo2 P Gl (.region id cops true) tm H (fun ce tm' H'=>ce = .normal∧k tm' H')

def Qst (P:Program) (Gl:Nat->Option (List PV)) (a b:CC) (tm:List AV) (H:List AObj) (Q:CExit->List AV->List AObj->Prop):Prop:=
 ∀ ca cb,Ye P ca a=true->Ye P cb b=true->Qo2 P Gl (.seq ca cb) tm H Q
noncomputable def Qpn : {f:Cmp->Int->Int->Bool // f=Q6}:=Classical.choice ⟨⟨Q6,rfl⟩⟩
noncomputable def Qj3 : {f:Cmp->List UInt8->List UInt8->Bool // f=Q31}:=Classical.choice ⟨⟨Q31,rfl⟩⟩
noncomputable def Qme:Cmp->Int->Int->Bool:=Qpn.1
noncomputable def Quv:Cmp->List UInt8->List UInt8->Bool:=Qj3.1
theorem cmpX_eq:Qme=Q6:=Qpn.2
theorem cmpY_eq:Quv=Q31:=Qj3.2
theorem cX:Q6=Qme:=cmpX_eq.symm
theorem cY:Q31=Quv:=cmpY_eq.symm
noncomputable def EP (P:Program) (Gl:Nat->Option (List PV)):Env Prop := { fail:=False,cmp:=Qpn,scmp:=Qj3,glob:=Gl,call:=Q8 P Gl,loop:=Q3g P Gl,join:=Qst P Gl,draw:=Q27 P Gl }

section
variable {P:Program} {Gl:Nat->Option (List PV)}

theorem TmOk.mono {θ θ':Th} {H H':List AObj} {w w':World} {tm:List AV} {a:Act} (h:TmOk θ (Qe θ H) w tm a) (e:Evo θ H w θ' H' w'):TmOk θ' (Qe θ' H') w' tm a:=
 ⟨h.size,fun i v hv=>e.relV (h.val i v hv),h.defers⟩
theorem TmOk.put {θ:Th} {S:Nat->Prop} {w:World} {tm:List AV} {a:Act} (h:TmOk θ S w tm a) (d:Option Nat) {v:AV} {cv:Value} (hv:RelV θ S w v cv) :
  TmOk θ S w (match d with | some d=>tm.set d v | none=>tm) (a.put d cv):=by
 cases d with
 | none=>exact h
 | some d=>
  refine ⟨by simp [Act.put,h.size],fun i x hx=>?_,h.defers⟩;simp only [Act.put];rw [Lo,Cf]
  by_cases hd:d=i
  ·subst hd;have hlt:=(La.1 hx).1;simp at hlt;rw [Li hlt] at hx;cases hx;rw [Af rfl,Af (by rw [h.size];exact hlt)];exact hv
  rw [Ae hd,← Lo];rw [Lg hd] at hx;exact h.val i x hx
theorem TmOk.known {θ:Th} {S:Nat->Prop} {w:World} {tm:List AV} {a:Act} (h:TmOk θ S w tm a) {t:Nat} {b:Bool} (ht:a.tmps.getD t undef = .bool b) :
  TmOk θ S w (tm.set t (.p (.bool b))) a:=by
 refine ⟨by simp [h.size],fun i x hx=>?_,h.defers⟩
 by_cases hd:t=i
 ·subst hd;have hlt:=(La.1 hx).1;simp at hlt;rw [Li hlt] at hx;cases hx;rw [ht];exact Xb b
 rw [Lg hd] at hx;exact h.val i x hx
theorem Y2 {α:Type} (tm:List AV) (d:Option Nat) (v:AV) (k:List AV->α):put tm d v k=k (match d with | some d=>tm.set d v | none=>tm):=by
 cases d<;>simp [put,Gt]

theorem Qnk {o:Op} {f:Nat} {args:List Opd} (hk:Q1t P o (.call f args)=true):∃ cl,o = .call cl∧cl.callee = .value (.func f)∧Qt cl.args.toList args=true:=by
 cases o<;>simp only [Q1t] at hk<;>try (cases hk;done)
 rename_i cl;split at hk
 ·rename_i g hcal;simp only [Lb,Aj] at hk;obtain ⟨rfl,hk2⟩:=hk;exact ⟨cl,rfl,hcal,hk2⟩
 cases hk
theorem Qe1 {o:Op} {f:Opd} {args:List Opd} (hk:Q1t P o (.callv f args)=true):∃ cl,o = .call cl∧Qt cl.args.toList args=true ∧
  ((∃ g,cl.callee = .value g∧(Q7 g f=true∨∃ tbls i,f = .mm tbls i∧Q7 g (.t i)=true∧tbls.all (fun q=>Q2a P q.1 q.2)=true)) ∨
   (∃ recv name tbl i,cl.callee = .invoke recv name∧f = .m tbl i∧Q7 recv (.t i)=true∧Q2a P name tbl=true) ∨
   (∃ recv name tbl i,cl.callee = .invoke recv name∧f = .d tbl i∧Q7 recv (.t i)=true∧Qck P name tbl=true)):=by
 cases o<;>simp only [Q1t] at hk<;>try (cases hk;done)
 rename_i cl;split at hk
 ·rename_i g hcal;simp only [Lb] at hk;refine ⟨cl,rfl,hk.2,.inl ⟨g,hcal,?_⟩⟩;have hk1:=hk.1;split at hk1
  ·simp only [Lb] at hk1;exact .inr ⟨_,_,rfl,hk1.1,hk1.2⟩
  exact .inl hk1
 ·rename_i recv name hcal;simp only [Lb] at hk;refine ⟨cl,rfl,hk.2,.inr ?_⟩;have hk1:=hk.1;split at hk1
  ·simp only [Lb] at hk1;exact .inl ⟨recv,name,_,_,hcal,rfl,hk1.1,hk1.2⟩
  ·simp only [Lb] at hk1;exact .inr ⟨recv,name,_,_,hcal,rfl,hk1.1,hk1.2⟩
  cases hk1
 cases hk
theorem Q9k:∀ (tbl:List (Nat×Nat)) (t f:Nat),Q76 tbl t=some f->(t,f)∈tbl
 | [],t,f,h=>by simp [Q76] at h
 | (u,g)::r,t,f,h=>by
  unfold Q76 at h
  cases hb:Nat.beq u t with
  | true=>
   rw [hb] at h;simp only [Ai,Ld] at h;have:=Na hb;subst this;subst h;simp
  | false=>
   rw [hb] at h;simp only [Ah] at h;simp [Q9k r t f h]
theorem Qn0 {name:String} {tbl:List (Nat×Nat)} (hm:Q2a P name tbl=true) {t f:Nat} (hf:Q76 tbl t=some f) (w:World) (v:Value) (n:Nat):(method (n+1) t v name).run P w = .ok (f,v) w:=by
 have h1:=(Lp.1 hm) _ (Q9k tbl t f hf)
 simp only at h1
 cases hi:P.info? t with
 | none=>simp [hi] at h1
 | some i=>
  simp only [hi,Mj] at h1
  cases hfd:i.methods.find? (·.name == name) with
  | none=>simp [hfd] at h1
  | some m=>
   simp only [hfd,Mj,Lb] at h1;obtain ⟨h2,h3⟩:=h1
   have hp:m.path.toList = []:=by simpa using h2
   have hti:(typeInfo t).run P w = .ok i w:=run_typeInfo w hi;unfold method;simp only [Sem.run_bind,hti,Result.andThen,hfd,hp,follow,Sem.run_pure]
   cases hmf:m.func with
   | none=>simp [hmf] at h3
   | some q=>
    obtain ⟨g,b⟩:=q
    cases hu:P.underlying t with
    | none=>cases b<;>simp [hmf,hu] at h3
    | some d=>
     simp only [receiverAt,Sem.run_bind,run_underlying hu,Result.andThen];rw [hmf,hu] at h3;cases b<;>cases d<;>simp at h3<;>subst h3<;>rfl
theorem Qo0 (ts:Array TypeId) (t:TypeId) (a:Addr) (n:String) (w:World):(Builtin.ssaWrapNilChk_ ts t #[.pointer (some a),strVal "",strVal n]).run P w = .ok (.pointer (some a)) w:=rfl
theorem Qku {name:String} {tbl:List (Nat×Nat)} (hm:Qck P name tbl=true) {t f:Nat} (hf:Q76 tbl t=some f):∃ e,Q4r P e 1=true∧Q9j P e false=true ∧
  ∀ (w:World) (a:Addr) (v:Value) (n:Nat),(loadVar e a).run P w = .ok v w->(method (n+1) t (.pointer (some a)) name).run P w = .ok (f,v) w:=by
 have h1:=(Lp.1 hm) _ (Q9k tbl t f hf)
 simp only at h1
 cases hi:P.info? t with
 | none=>simp [hi] at h1
 | some i=>
  simp only [hi,Mj] at h1
  cases hfd:i.methods.find? (·.name == name) with
  | none=>simp [hfd] at h1
  | some m=>
   simp only [hfd,Mj,Lb] at h1;obtain ⟨h2,h3⟩:=h1
   have hp:m.path.toList = []:=by simpa using h2
   cases hmf:m.func with
   | none=>simp [hmf] at h3
   | some q=>
    obtain ⟨g,b⟩:=q
    cases hu:P.underlying t with
    | none=>cases b<;>simp [hmf,hu] at h3
    | some d=>
     cases b with
     | true=>simp [hmf] at h3
     | false=>
      cases d with
      | pointer e=>
       simp only [hmf,hu,Lb,Aj] at h3;obtain ⟨⟨rfl,h4⟩,h5⟩:=h3;refine ⟨e,h4,h5,fun w a v n hl=>?_⟩;have hti:(typeInfo t).run P w = .ok i w:=run_typeInfo w hi;have hun:=run_underlying hu w;unfold method;simp only [Sem.run_bind,hti,Result.andThen,hfd,hp,follow,Sem.run_pure];simp [hmf,receiverAt,Sem.run_bind,hun,Result.andThen,Place.get,Qo0,h2,hl,asAddr]
      | _=>simp [hmf,hu] at h3
theorem Qd5 (A B:List Value) (i:Nat) (d:Value):(A++B).getD i d=if i<A.length then A.getD i d else B.getD (i - A.length) d:=by
 rw [Le];split
 ·rename_i h;rw [Lh h,Le]
 rename_i h;rw [Lm (by omega),Le]
def RelL (θ:Th) (S:Nat->Prop) (w:World) (cs:List AV) (vs:List Value):Prop:=vs.length=cs.length∧∀ (i:Nat) x,cs[i]? = some x->RelV θ S w x (vs.getD i Qc)
theorem RelL.append {θ:Th} {S:Nat->Prop} {w:World} {cs ds:List AV} {vs us:List Value} (r:RelL θ S w cs vs) (q:RelL θ S w ds us):RelL θ S w (cs++ds) (vs++us):=by
 refine ⟨by simp [r.1,q.1],fun i x hx=>?_⟩;rw [Qd5,r.1]
 by_cases hi:i<cs.length
 ·rw [Lh hi] at hx;rw [Af hi];exact r.2 i x hx
 rw [Lm (by omega)] at hx;rw [Ae hi];exact q.2 _ x hx
theorem RelL.args {θ:Th} {S:Nat->Prop} {w:World} {cs:List AV} {vs:List Value} (r:RelL θ S w cs vs):Q01 θ S w cs vs.toArray:=
 ⟨by simpa using r.1,fun i x hx=>by rw [Zb];exact r.2 i x hx⟩
theorem RelL.ofP {θ:Th} {S:Nat->Prop} {w:World} {cs:List PV} {vs:List Value} (h1:vs.length=cs.length) (h2:∀ (i:Nat) x,cs[i]? = some x->RelP S w x (vs.getD i Qc)):RelL θ S w (cs.map .p) vs:=
 ⟨by simp [h1],fun i x hx=>by
  rw [Lk] at hx
  cases hc:cs[i]? with
  | none=>rw [hc] at hx;cases hx
  | some y=>rw [hc] at hx;cases hx;exact .p _ _ (h2 i y hc)⟩

theorem Qtk (x:Value) (A:Array Value):(#[x]++A).extract 1 (#[x]++A).size=A:=by
 apply Array.ext';rw [Array.toList_extract,Array.toList_append];simp [List.extract,List.take_of_length_le]
theorem Qty (x:Value) (A:Array Value):(#[x]++A)[0]? = some x:=by
 rw [Array.getElem?_append];simp
theorem Qgc (tbls:List (String×List (Nat×Nat))) (vf:AV):(∃ n v,vf = .func (.method n) [v] []∧Qg5 tbls vf=Qdd (Qbf tbls n) v) ∨
  (∃ n v,vf = .p (.func (.method n) [v] [])∧Qg5 tbls vf=Qdd (Qbf tbls n) (.p v))∨Qg5 tbls vf=vf:=by
 unfold Qg5;split
 ·exact .inl ⟨_,_,rfl,rfl⟩
 ·exact .inr (.inl ⟨_,_,rfl,rfl⟩)
 exact .inr (.inr rfl)
theorem Qfp {nm:String}:∀ (tbls:List (String×List (Nat×Nat))),tbls.all (fun q=>Q2a P q.1 q.2)=true->Q2a P nm (Qbf tbls nm)=true
 | [],_=>rfl
 | (n',t')::r,h=>by
  simp only [Cg,Lb] at h;unfold Qbf
  cases hb:n' == nm with
  | true=>have:=eq_of_beq hb;subst this;exact h.1
  | false=>exact Qfp r h.2
def Q69 (C:Nat->List AV->Prop) (tm:List AV):COp->Prop
 | .call f args=>C f (args.map (Q1 tm))
 | .callv f args=>match Q1 tm f with
  | .func (.func f) first captured=>C f (first++(args.map (Q1 tm)++captured))
  | .p (.func (.func f) first captured)=>C f (first.map .p++(args.map (Q1 tm)++captured.map .p))
  | _=>False
 | _=>False
theorem Q9h {θ:Th} {H:List AObj} {w:World} {a:Act} {tm:List AV} (hT:TmOk θ (Qe θ H) w tm a) {o:Oper} {c:COp} (hk:Q1t P o.op c=true) (hc:c.isCall=true)
  {K:Act->World->Prop} {Q:Exit->Act->World->Prop} {C:Nat->List AV->Prop}
  (hC:∀ f args,C f args->Qd0 P f=true∧∀ cargs,Q01 θ (Qe θ H) w args cargs->Calls P f cargs w fun e w'=>∃ cr,e = .returned cr∧K (a.put o.dst cr) w')
  (h:Q69 C tm c):o.wp P a w K Q:=by
 have fin:∀ (f:Nat) (args:List AV) (cargs:Array Value),C f args->Q01 θ (Qe θ H) w args cargs->((execOp a.eval o).run P w = .ok (.enter f cargs) w)->o.wp P a w K Q:=by
  intro f args cargs hcall hargs hrun;unfold Oper.wp;rw [hrun];refine ((hC f args hcall).2 cargs hargs).mono ?_
  rintro e w' ⟨cr,rfl,q⟩
  exact q
 have enter:∀ (f:Nat) (cargs:Array Value),Qd0 P f=true->(callFunc f cargs).run P w = .ok (.enter f cargs) w:=by
  intro f cargs hf;unfold Qd0 at hf
  cases hfn:P.funcs[f]? with
  | none=>simp [hfn] at hf
  | some fn=>
   simp only [hfn,Mj,Lb,bne_iff_ne,ne_eq] at hf;obtain ⟨hb,hn⟩:=hf
   have hb':fn.body.isNone=false:=by cases hbb:fn.body<;>simp_all
   have hn':(fn.name == "runtime.NumGoroutine")=false:=by simpa using hn
   have hpr:(program).run P w = .ok P w:=rfl;simp only [callFunc,Sem.run_bind,hpr,Result.andThen,hfn,hn',hb'];rfl
 obtain ⟨dst,op,ty,pos,aft,gd⟩:=o;cases c
 case call f args=>
  obtain ⟨cl,rfl,hcal,hk2⟩:=Qnk hk;simp only [Q69] at h;have ha:=Q4l hT _ _ hk2;have hrl:RelL θ (Qe θ H) w (args.map (Q1 tm)) (cl.args.toList.map a.eval):=⟨by simp [ha.1],ha.2⟩
  have e:cl.args.map a.eval=(cl.args.toList.map a.eval).toArray:=by apply Array.ext';simp
  refine fin f _ (cl.args.map a.eval) h (by rw [e];exact hrl.args) ?_;have:=enter f (cl.args.map a.eval) (hC _ _ h).1;simp [execOp,resolve,hcal,Act.eval,Deferred.ofValue,invoke];simpa using this
 case callv f args=>
  obtain ⟨cl,rfl,hk2,hk1⟩:=Qe1 hk;simp only [Q69] at h;have ha:=Q4l hT _ _ hk2;have hrl:RelL θ (Qe θ H) w (args.map (Q1 tm)) (cl.args.toList.map a.eval):=⟨by simp [ha.1],ha.2⟩
  -- a method of an interface value
  have mkey:∀ (name:String) (tbl:List (Nat×Nat)) (vr:AV) (cr:Value),Q2a P name tbl=true->RelV θ (Qe θ H) w vr cr->(match Qdd tbl vr with
    | .func (.func f) first captured=>C f (first++(args.map (Q1 tm)++captured))
    | .p (.func (.func f) first captured)=>C f (first.map .p++(args.map (Q1 tm)++captured.map .p))
    | _=>False)->∃ fid t cv,cr = .iface t cv∧((callMethod cr name (cl.args.map a.eval)).run P w = .ok (.enter fid (#[cv]++cl.args.map a.eval)) w)∧∃ av,RelV θ (Qe θ H) w av cv∧C fid (av::args.map (Q1 tm)):=by
   intro name tbl vr cr hm hr h
   have go:∀ (t:Nat) (av:AV) (cv:Value) (fid:Nat),cr = .iface t cv->RelV θ (Qe θ H) w av cv->Q76 tbl t=some fid->C fid (av::args.map (Q1 tm)) ->
     ∃ fid t cv,cr = .iface t cv∧((callMethod cr name (cl.args.map a.eval)).run P w = .ok (.enter fid (#[cv]++cl.args.map a.eval)) w)∧∃ av,RelV θ (Qe θ H) w av cv∧C fid (av::args.map (Q1 tm)):=by
    intro t av cv fid e1 e2 e3 e4;refine ⟨fid,t,cv,e1,?_,av,e2,e4⟩;subst e1;have hpr:(program).run P w = .ok P w:=rfl;have hmr:=Qn0 hm e3 w cv (P.types.size+(Made.depth - 1));have hd:P.types.size+(Made.depth - 1)+1=P.types.size+Made.depth:=rfl;rw [hd] at hmr;simp only [callMethod,Sem.run_bind,hpr,Result.andThen,hmr,enter fid _ (hC _ _ e4).1]
   cases vr<;>simp only [Qdd] at h<;>try exact h.elim
   ·rename_i x
    cases x<;>simp only at h<;>try exact h.elim
    rename_i t x
    cases hr with
    | p _ _ hp=>
     cases hp with
     | iface _ _ cv hq=>
      cases hf:Q76 tbl t with
      | none=>rw [hf] at h;exact h.elim
      | some fid=>rw [hf] at h;simp only [Mv] at h;exact go t (.p x) cv fid rfl (.p _ _ hq) hf h
   rename_i t x
   cases hr with
   | iface _ _ cv hq=>
    cases hf:Q76 tbl t with
    | none=>rw [hf] at h;exact h.elim
    | some fid=>rw [hf] at h;simp only [Mv] at h;exact go t x cv fid rfl hq hf h
  rcases hk1 with ⟨g,hcal,hk1⟩ | ⟨recv,name,tbl,i,hcal,rfl,hk1,hm⟩ | ⟨recv,name,tbl,i,hcal,rfl,hk1,hm⟩
  rotate_right
  ·exact h.elim
  rotate_left
  ·-- invoke
   have hrf:=Qj hT hk1;obtain ⟨fid,t,cv,e1,e2,av,e3,e4⟩:=mkey name tbl (Q1 tm (.t i)) (a.eval recv) hm hrf h
   have e : #[cv]++cl.args.map a.eval=((cv::cl.args.toList.map a.eval)).toArray:=by apply Array.ext';simp
   have hr1:RelL θ (Qe θ H) w (av::args.map (Q1 tm)) (cv::cl.args.toList.map a.eval):=by
    have:=(show RelL θ (Qe θ H) w [av] [cv] from ⟨rfl,fun i x hx=>by
     match i with
     | 0=>simp at hx;subst hx;exact e3
     | i+1=>simp at hx⟩).append hrl
    exact this
   refine fin fid _ (#[cv]++cl.args.map a.eval) e4 (by rw [e];exact hr1.args) ?_;have hx:(#[a.eval recv]++cl.args.map a.eval).extract 1 (#[a.eval recv]++cl.args.map a.eval).size=cl.args.map a.eval:=Qtk _ _;simp only [execOp,resolve,hcal,Sem.run_bind,Sem.run_pure,Result.andThen,invoke];have h0:(#[a.eval recv]++cl.args.map a.eval)[0]? = some (a.eval recv):=Qty _ _;simp only [h0,hx,e2]
  rcases hk1 with hk1 | ⟨tbls,i,rfl,hk1,hms⟩
  rotate_left
  ·-- a value that may be a bound method
   have hrf:=Qj hT hk1
   have hbm:∀ (nm:String) (vr:AV) (A B:Array Value) (cr:Value),a.eval g = .func (.method nm) A B->A = #[cr]->B = #[]->RelV θ (Qe θ H) w vr cr->(match Qdd (Qbf tbls nm) vr with
    | .func (.func f) first captured=>C f (first++(args.map (Q1 tm)++captured))
    | .p (.func (.func f) first captured)=>C f (first.map .p++(args.map (Q1 tm)++captured.map .p))
    | _=>False)->Oper.wp P ⟨dst,.call cl,ty,pos,aft,gd⟩ a w K Q:=by
    intro nm vr A B cr hg hA hB hr h;subst hA hB;have hm:Q2a P nm (Qbf tbls nm)=true:=Qfp tbls hms;obtain ⟨fid,t,cv,e1,e2,av,e3,e4⟩:=mkey nm (Qbf tbls nm) vr cr hm hr h
    have e : #[cv]++cl.args.map a.eval=((cv::cl.args.toList.map a.eval)).toArray:=by apply Array.ext';simp
    have hr1:RelL θ (Qe θ H) w (av::args.map (Q1 tm)) (cv::cl.args.toList.map a.eval):=
     (show RelL θ (Qe θ H) w [av] [cv] from ⟨rfl,fun i x hx=>by
      match i with
      | 0=>simp at hx;subst hx;exact e3
      | i+1=>simp at hx⟩).append hrl
    refine fin fid _ (#[cv]++cl.args.map a.eval) e4 (by rw [e];exact hr1.args) ?_;have hx:(#[cr]++cl.args.map a.eval).extract 1 (#[cr]++cl.args.map a.eval).size=cl.args.map a.eval:=Qtk _ _;have h0:(#[cr]++cl.args.map a.eval)[0]? = some cr:=Qty _ _;simp only [execOp,resolve,hcal,hg,Deferred.ofValue,Sem.run_bind,Sem.run_pure,Result.andThen,invoke,h0,hx,e2]
   have e0:Q1 tm (.mm tbls i)=Qg5 tbls (Q1 tm (.t i)):=rfl;rw [e0] at h
   have key:(∃ fid A B first captured,a.eval g = .func (.func fid) A B∧RelL θ (Qe θ H) w first A.toList∧RelL θ (Qe θ H) w captured B.toList∧C fid (first++(args.map (Q1 tm)++captured)))∨Oper.wp P ⟨dst,.call cl,ty,pos,aft,gd⟩ a w K Q:=by
    generalize Q1 tm (.t i)=vf at h hrf;generalize hag:a.eval g=ag at hrf
    rcases Qgc tbls vf with ⟨n,v,rfl,e⟩ | ⟨n,v,rfl,e⟩ | e<;>rw [e] at h
    ·cases hrf with
     | func _ _ _ A B hA hB hav hbv=>
      obtain ⟨cr,rfl⟩:=Bl.1 (show A.size=1 by simpa using hA);have hB':B = #[]:=Mh (by simpa using hB);exact .inr (hbm _ _ _ _ cr hag rfl hB' (by simpa using hav 0 _ rfl) h)
    ·cases hrf with
     | p _ _ hp=>
      cases hp with
      | func _ _ _ A B hA hB hav hbv=>
       obtain ⟨cr,rfl⟩:=Bl.1 (show A.size=1 by simpa using hA);have hB':B = #[]:=Mh (by simpa using hB);exact .inr (hbm _ _ _ _ cr hag rfl hB' (.p _ _ (by simpa using hav 0 _ rfl)) h)
    left;split at h
    ·cases hrf with
     | func _ _ _ A B hA hB hav hbv=>
      exact ⟨_,A,B,_,_,rfl,⟨by simpa using hA,fun i x hx=>by rw [← Zb];exact hav i x hx⟩,⟨by simpa using hB,fun i x hx=>by rw [← Zb];exact hbv i x hx⟩,h⟩
    ·cases hrf with
     | p _ _ hp=>
      cases hp with
      | func _ _ _ A B hA hB hav hbv=>
       exact ⟨_,A,B,_,_,rfl,.ofP (by simpa using hA) (fun i x hx=>by rw [← Zb];exact hav i x hx),.ofP (by simpa using hB) (fun i x hx=>by rw [← Zb];exact hbv i x hx),h⟩
    exact h.elim
   rcases key with ⟨fid,A,B,first,captured,hg,hA,hB,hcall⟩ | hw
   ·have e:A++cl.args.map a.eval++B=(A.toList++(cl.args.toList.map a.eval++B.toList)).toArray:=by
     apply Array.ext';simp
    refine fin fid _ (A++cl.args.map a.eval++B) hcall (by rw [e];exact (hA.append (hrl.append hB)).args) ?_;have:=enter fid (A++cl.args.map a.eval++B) (hC _ _ hcall).1;simp [execOp,resolve,hcal,hg,Deferred.ofValue,invoke];simpa using this
   exact hw
  have hrf:=Qj hT hk1
  have key:∃ fid A B first captured,a.eval g = .func (.func fid) A B∧RelL θ (Qe θ H) w first A.toList∧RelL θ (Qe θ H) w captured B.toList∧C fid (first++(args.map (Q1 tm)++captured)):=by
   generalize Q1 tm f=vf at h hrf;split at h
   ·generalize a.eval g=ag at hrf
    cases hrf with
    | func _ _ _ A B hA hB hav hbv=>
     exact ⟨_,A,B,_,_,rfl,⟨by simpa using hA,fun i x hx=>by rw [← Zb];exact hav i x hx⟩,⟨by simpa using hB,fun i x hx=>by rw [← Zb];exact hbv i x hx⟩,h⟩
   ·generalize a.eval g=ag at hrf
    cases hrf with
    | p _ _ hp=>
     cases hp with
     | func _ _ _ A B hA hB hav hbv=>
      exact ⟨_,A,B,_,_,rfl,.ofP (by simpa using hA) (fun i x hx=>by rw [← Zb];exact hav i x hx),.ofP (by simpa using hB) (fun i x hx=>by rw [← Zb];exact hbv i x hx),h⟩
   exact h.elim
  obtain ⟨fid,A,B,first,captured,hg,hA,hB,hcall⟩:=key
  have e:A++cl.args.map a.eval++B=(A.toList++(cl.args.toList.map a.eval++B.toList)).toArray:=by
   apply Array.ext';simp
  refine fin fid _ (A++cl.args.map a.eval++B) hcall (by rw [e];exact (hA.append (hrl.append hB)).args) ?_;have:=enter fid (A++cl.args.map a.eval++B) (hC _ _ hcall).1;simp [execOp,resolve,hcal,hg,Deferred.ofValue,invoke];simpa using this
 all_goals simp [COp.isCall] at hc
theorem Qiu {θ:Th} {H:List AObj} {w:World} {a:Act} {tm:List AV} (hT:TmOk θ (Qe θ H) w tm a) (hH:Hp θ H w) (hG:GlobOK Gl θ H w) {o:Oper} {tbl:List (Nat×Nat)} {i:Nat} {args:List Opd} (hk:Q1t P o.op (.callv (.d tbl i) args)=true)
  {K:Act->World->Prop} {Q:Exit->Act->World->Prop} {C:Nat->List AV->Prop}
  (hC:∀ f args,C f args->Qd0 P f=true∧∀ cargs,Q01 θ (Qe θ H) w args cargs->Calls P f cargs w fun e w'=>∃ cr,e = .returned cr∧K (a.put o.dst cr) w')
  {t f:Nat} {v x:AV} {cs ds:List AV} (h1:tm.getD i .any = .iface t v) (h2:Q76 tbl t=some f) (h3:Vb Gl H v=some cs) (h4:Gd 1 cs=some ds) (h5:sOf false ds=some x) (h:C f (x::args.map (Q1 tm))):o.wp P a w K Q:=by
 have enter:∀ (f:Nat) (cargs:Array Value),Qd0 P f=true->(callFunc f cargs).run P w = .ok (.enter f cargs) w:=by
  intro f cargs hf;unfold Qd0 at hf
  cases hfn:P.funcs[f]? with
  | none=>simp [hfn] at hf
  | some fn=>
   simp only [hfn,Mj,Lb,bne_iff_ne,ne_eq] at hf;obtain ⟨hb,hn⟩:=hf
   have hb':fn.body.isNone=false:=by cases hbb:fn.body<;>simp_all
   have hn':(fn.name == "runtime.NumGoroutine")=false:=by simpa using hn
   have hpr:(program).run P w = .ok P w:=rfl;simp only [callFunc,Sem.run_bind,hpr,Result.andThen,hfn,hn',hb'];rfl
 obtain ⟨dst,op,ty,pos,aft,gd⟩:=o;obtain ⟨cl,rfl,hk2,hk1⟩:=Qe1 hk
 rcases hk1 with ⟨g,_,hk1⟩ | ⟨_,_,_,_,_,e,_,_⟩ | ⟨recv,name,tbl',i',hcal,e,hk1,hm⟩
 ·rcases hk1 with hk1 | ⟨_,_,e,_,_⟩
  ·cases g<;>cases hk1
  cases e
 ·cases e
 cases e;have ha:=Q4l hT _ _ hk2;have hrl:RelL θ (Qe θ H) w (args.map (Q1 tm)) (cl.args.toList.map a.eval):=⟨by simp [ha.1],ha.2⟩;have hrf:=Qj hT hk1;rw [show Q1 tm (.t i) = .iface t v from h1] at hrf;generalize hag:a.eval recv=ag at hrf
 cases hrf with
 | iface _ _ cv hq=>
  obtain ⟨addr,vs,hcv,hsp,hrel,hcell⟩:=Jw hH hG hq h3;obtain ⟨rfl,hlen⟩:=Jr h4;have hrel':=hrel.take 1;obtain ⟨cx,hcx,hrx⟩:=Qdw hrel' h5;obtain ⟨e,hz,hb,hmr⟩:=Qku hm h2
  have hload:=Q5u (w:=w) hz hb (addr:=addr) (vs:=vs.take 1) (by rw [hrel'.1,hlen]) (fun j u hj=>hcell j u (by
   rw [Lz] at hj;split at hj
   ·exact hj
   cases hj)) hcx
  have hmr:=hmr w addr cx (P.types.size+(Made.depth - 1)) hload;have hd:P.types.size+(Made.depth - 1)+1=P.types.size+Made.depth:=rfl;rw [hd] at hmr;have hpr:(program).run P w = .ok P w:=rfl
  have e2:(callMethod (.iface t cv) name (cl.args.map a.eval)).run P w = .ok (.enter f (#[cx]++cl.args.map a.eval)) w:=by
   simp only [callMethod,Sem.run_bind,hpr,Result.andThen,hcv,hmr,enter f _ (hC _ _ h).1]
  have e : #[cx]++cl.args.map a.eval=((cx::cl.args.toList.map a.eval)).toArray:=by apply Array.ext';simp
  have hr1:RelL θ (Qe θ H) w (x::args.map (Q1 tm)) (cx::cl.args.toList.map a.eval):=
   (show RelL θ (Qe θ H) w [x] [cx] from ⟨rfl,fun i y hy=>by
    match i with
    | 0=>simp at hy;subst hy;exact hrx
    | i+1=>simp at hy⟩).append hrl
  have hx:(#[Value.iface t cv]++cl.args.map a.eval).extract 1 (#[Value.iface t cv]++cl.args.map a.eval).size=cl.args.map a.eval:=Qtk _ _;have h0:(#[Value.iface t cv]++cl.args.map a.eval)[0]? = some (Value.iface t cv):=Qty _ _
  have hrun:(execOp a.eval ⟨dst,.call cl,ty,pos,aft,gd⟩).run P w = .ok (.enter f (#[cx]++cl.args.map a.eval)) w:=by
   simp only [execOp,resolve,hcal,hag,Sem.run_bind,Sem.run_pure,Result.andThen,invoke,h0,hx,e2]
  unfold Oper.wp;rw [hrun];refine ((hC f _ h).2 _ (by rw [e];exact hr1.args)).mono ?_
  rintro e w' ⟨cr,rfl,q⟩
  exact q
theorem Q08 {θ:Th} {H:List AObj} {w:World} {a:Act} {tm:List AV} (hT:TmOk θ (Qe θ H) w tm a) (hH:Hp θ H w) (hG:GlobOK Gl θ H w) {o:Oper} {c:COp} (hk:Q1t P o.op c=true)
  {k:AV->List AObj->Prop} (h:X3 (EP P Gl) tm H k c) {K:Act->World->Prop} {Q:Exit->Act->World->Prop}
  (hK:∀ v cv H' θ' w',k v H'->RelV θ' (Qe θ' H') w' v cv->Hp θ' H' w'->EvoS θ H w θ' H' w'->K (a.put o.dst cv) w'):o.wp P a w K Q:=by
 by_cases hc:c.isCall=false
 ·rw [Q3n _ _ _ _ _ hc] at h
  cases hs:Ql Gl tm H H.length c with
  | none=>rw [show (EP P Gl).glob=Gl from rfl,hs] at h;exact h.elim
  | some ve=>
   obtain ⟨v,e⟩:=ve;rw [show (EP P Gl).glob=Gl from rfl,hs] at h;obtain ⟨cv,w',θ',hr,h1,h2,h3',h4,h5⟩:=Qhg hT hH hG (.inl rfl) hk hc hs;have h3:EvoS θ H w θ' (e.apply H H.length) w':=⟨h3',e.len _ _,fun b hb=>h4 b (by omega)⟩;unfold Oper.wp
   rcases hr with hr | ⟨hr,rfl⟩
   ·rw [hr];exact hK v cv _ θ' w' h h1 h2 h3
   rw [hr];exact hK v undef _ θ' w' h h1 h2 h3
 have hCA:∀ f args,Q8 P Gl f args H k->Qd0 P f=true∧∀ cargs,Q01 θ (Qe θ H) w args cargs->Calls P f cargs w fun e w'=>∃ cr,e = .returned cr∧K (a.put o.dst cr) w':=fun f args hcall=>⟨hcall.1,fun cargs hargs=>(hcall.2 θ w cargs hargs hH hG).mono (by
  rintro e w' ⟨r,cr,H',θ',rfl,q1,q2,q3,q4⟩
  exact ⟨cr,rfl,hK r cr H' θ' w' q1 q2 q3 q4⟩)⟩
 cases c<;>try (simp [COp.isCall] at hc;done)
 ·refine Q9h hT hk rfl (C:=fun f args=>Q8 P Gl f args H k) hCA ?_;simp only [X3,Qap,Ys] at h;exact h
 rename_i f args
 cases f with
 | d tbl i=>
  simp only [X3,Q17,Q8v,Ys,Wl,Ju,U7,Xy] at h;split at h
  ·rename_i t v hv;split at h
   ·rename_i f hf;split at h
    ·rename_i cs hcs;split at h
     ·rename_i ds hds;split at h
      ·rename_i x hx;exact Qiu hT hH hG hk hCA hv hf hcs hds hx h
      exact h.elim
     exact h.elim
    exact h.elim
   exact h.elim
  exact h.elim
 | _=>
  refine Q9h hT hk rfl (C:=fun f args=>Q8 P Gl f args H k) hCA ?_;simp only [X3,Q17,Ys,Qi,Vn,Zu] at h;simp only [Q69];exact h
theorem G3 {θ:Th} {S:Nat->Prop} {w:World} {tm:List AV} {a:Act} (hT:TmOk θ S w tm a) {t:Nat} {v:AV} (hv:tm.getD t .any=v) (hne:v ≠ .any) :
  ∃ cv,a.tmps[t]? = some cv∧a.tmps.getD t undef=cv∧RelV θ S w v cv:=by
 cases ht:tm[t]? with
 | none=>rw [Le,ht] at hv;exact absurd hv.symm hne
 | some u=>
  rw [Le,ht] at hv;simp at hv;subst hv;have hlt:=(La.1 ht).1;rw [← hT.size] at hlt;have h1:=hT.val t _ ht;refine ⟨a.tmps[t],Lr hlt,?_,?_⟩
  ·rw [Lo,Lr hlt];rfl
  ·rw [Lo,Lr hlt] at h1;exact h1

theorem Qa6 (ops:Array Oper) {θ0:Th} {H0:List AObj} {w0:World} {k:List AV->List AObj->Prop} (hG0:GlobOK Gl θ0 H0 w0) {Q:Exit->Act->World->Prop}
  (hQ:∀ tm' H' θ' a' w',k tm' H'->TmOk θ' (Qe θ' H') w' tm' a'->Hp θ' H' w'->EvoS θ0 H0 w0 θ' H' w'->Q .normal a' w'):∀ (os:List Oper) (cs:List COper),J2 P ops os cs=true->∀ tm H,Zc (EP P Gl) k cs tm H ->
  ∀ θ a w,EvoS θ0 H0 w0 θ H w->TmOk θ (Qe θ H) w tm a->Hp θ H w ->
  wpList P ops Q os a w
 | [],[],_,tm,H,h,θ,a,w,hE,hT,hH=>hQ tm H θ a w h hT hH hE
 | o::os,c::cs,hk,tm,H,h,θ,a,w,hE,hT,hH=>by
  simp only [J2,Lb,Aj] at hk;obtain ⟨⟨⟨hd,hop⟩,hg⟩,hrest⟩:=hk;have hG:=hG0.evo hE.toEvo
  have run:∀ tm1,TmOk θ (Qe θ H) w tm1 a->X3 (EP P Gl) tm1 H (fun v hp=>put tm1 c.dst v fun tm=>Zc (EP P Gl) k cs tm hp) c.op->Region.wanted o (yielded ops a.tmps)=true ->
    wpList P ops Q (o::os) a w:=by
   intro tm1 hT1 hev hw;unfold wpList;rw [Af hw];refine .inl (Q08 hT1 hH hG hop hev (fun v cv H' θ' w' hkv hrv hH' hE'=>?_));rw [Y2] at hkv;exact Qa6 ops hG0 hQ os cs hrest _ H' hkv θ' _ w' (hE.trans hE') (by rw [hd];exact (hT1.mono hE'.toEvo).put c.dst hrv) hH'
  have skip:∀ tm1,TmOk θ (Qe θ H) w tm1 a->(put tm1 c.dst Zd fun tm=>Zc (EP P Gl) k cs tm H)->Region.wanted o (yielded ops a.tmps)=false ->
    wpList P ops Q (o::os) a w:=by
   intro tm1 hT1 hev hw;unfold wpList;rw [Ae (by rw [hw];simp)];rw [Y2] at hev;exact Qa6 ops hG0 hQ os cs hrest _ H hev θ _ w hE (by rw [hd];exact hT1.put c.dst J0) hH
  simp only [Wt] at h
  cases hgc:c.guard with
  | none=>
   rw [hgc] at h hg
   cases hgo:o.guard with
   | some jb=>rw [hgo] at hg;simp [Z3] at hg
   | none=>exact run tm hT h (by simp [Region.wanted,hgo])
  | some tb=>
   obtain ⟨t,want⟩:=tb;rw [hgc] at h hg
   cases hgo:o.guard with
   | none=>rw [hgo] at hg;simp [Z3] at hg
   | some jb=>
    obtain ⟨j,b⟩:=jb;rw [hgo] at hg;simp only [Z3,Lb,Aj] at hg;obtain ⟨rfl,hj⟩:=hg;simp only [Wl] at h;generalize hvt:tm.getD t .any=vt at h;split at h
    ·rename_i x;obtain ⟨cv,e1,e2,e3⟩:=G3 hT hvt (by simp);have:=Q1h e3;subst this;have hk1:=hT.known e2
     have hy':yielded ops a.tmps j=some x:=by unfold yielded;rw [hj];simp only [Lq,e1]
     simp only [Gt,Wh] at h;cases x<;>cases b<;>simp only [Ak,Al,Lu] at h
     ·exact run _ hk1 (by simpa using h) (by simp [Region.wanted,hgo,hy'])
     ·exact skip _ hk1 (by simpa using h) (by simp [Region.wanted,hgo,hy'])
     ·exact skip _ hk1 (by simpa using h) (by simp [Region.wanted,hgo,hy'])
     exact run _ hk1 (by simpa using h) (by simp [Region.wanted,hgo,hy'])
    ·obtain ⟨cv,e1,e2,e3⟩:=G3 hT hvt (by simp)
     have hcv:cv = .tuple #[]:=by
      cases e3 with
      | p _ _ hp=>
       cases hp with
       | tuple _ C hn hv=>
        have:C = #[]:=by apply Mh;simpa using hn
        rw [this]
     have hy':yielded ops a.tmps j=none:=by unfold yielded;rw [hj];simp only [Lq,e1,hcv]
     exact skip _ hT h (by simp [Region.wanted,hgo,hy'])
    exact h.elim
 | [],_::_,hk,_,_,_,_,_,_,_,_,_=>by simp [J2] at hk
 | _::_,[],hk,_,_,_,_,_,_,_,_,_=>by simp [J2] at hk

theorem Q65:∀ (code:Code) (c:CC),Ye P code c=true->∀ tm H Q,ev (EP P Gl) c tm H Q->Qo2 P Gl code tm H Q
 | .label _,.skip,_,tm,H,Q,h=>fun θ a w hT hH hG=>wp_label ⟨.normal,tm,H,θ,trivial,h,hT,hH,.refl _ _ _⟩
 | .skip,.skip,_,tm,H,Q,h=>fun θ a w hT hH hG=>wp_skip ⟨.normal,tm,H,θ,trivial,h,hT,hH,.refl _ _ _⟩
 | .exit id,.exit id',hk,tm,H,Q,h=>fun θ a w hT hH hG=>by
  simp only [Ye,Aj] at hk;subst hk;exact wp_exit ⟨.exit id,tm,H,θ,rfl,h,hT,hH,.refl _ _ _⟩
 | .ret,.ret,_,tm,H,Q,h=>fun θ a w hT hH hG=>wp_ret ⟨.ret,tm,H,θ,trivial,h,hT,hH,.refl _ _ _⟩
 | .region id ops d,.region d' cs,hk,tm,H,Q,h=>fun θ a w hT hH hG=>by
  simp only [Ye,Lb,Aj] at hk;obtain ⟨⟨rfl,hk⟩,hst⟩:=hk
  cases d with
  | false=>
   exact wp_region_list (Qa6 ops hG (fun tm' H' θ' a' w' h1 h2 h3 h4=>⟨.normal,tm',H',θ',trivial,h1,h2,h3,h4⟩) ops.toList cs hk tm H h θ a w (.refl _ _ _) hT hH)
  | true=>
   simp only [Cv,Cw,Lb] at hst;refine wp_mono (h id ops hk hst.1 hst.2 θ a w hT hH hG) ?_
   rintro e a' w' ⟨ce,tm',H',θ',h1,⟨rfl,h2⟩,h3,h4,h5⟩
   exact ⟨.normal,tm',H',θ',h1,h2,h3,h4,h5⟩
 | .seq x y,.seq x' y',hk,tm,H,Q,h=>fun θ a w hT hH hG=>by
  simp only [Ye,Lb] at hk;refine wp_seq (wp_mono (Q65 x x' hk.1 tm H _ h θ a w hT hH hG) ?_)
  rintro e a' w' ⟨ce,tm',H',θ',h1,h2,h3,h4,h5⟩
  cases ce<;>cases e<;>simp only [Qba] at h1
  ·refine wp_mono (Q65 y y' hk.2 tm' H' _ h2 θ' a' w' h3 h4 (hG.evo h5.toEvo)) ?_
   rintro e a'' w'' ⟨ce,tm'',H'',θ'',q1,q2,q3,q4,q5⟩
   exact ⟨ce,tm'',H'',θ'',q1,q2,q3,q4,h5.trans q5⟩
  ·subst h1;exact ⟨.exit _,tm',H',θ',rfl,h2,h3,h4,h5⟩
  exact ⟨.ret,tm',H',θ',trivial,h2,h3,h4,h5⟩
 | .cond c x y,.cond c' x' y',hk,tm,H,Q,h=>fun θ a w hT hH hG=>by
  simp only [Ye,Lb] at hk;obtain ⟨⟨h1,h2⟩,h3⟩:=hk;simp only [Qk3,Qi] at h;have hr:=Qj hT h1;generalize Q1 tm c'=vc at h hr;split at h
  ·rename_i b;refine wp_cond (Q1h hr) ?_;rw [Wh] at h;cases b
   ·exact Q65 y y' h3 tm H Q (by simpa using h) θ a w hT hH hG
   exact Q65 x x' h2 tm H Q (by simpa using h) θ a w hT hH hG
  exact h.elim
 | .block id b,.block id' b',hk,tm,H,Q,h=>fun θ a w hT hH hG=>by
  simp only [Ye,Lb,Aj] at hk;obtain ⟨rfl,hk⟩:=hk;refine wp_block (wp_mono (Q65 b b' hk tm H _ h θ a w hT hH hG) ?_)
  rintro e a' w' ⟨ce,tm',H',θ',h1,h2,h3,h4,h5⟩
  cases ce<;>cases e<;>simp only [Qba] at h1
  ·exact ⟨.normal,tm',H',θ',trivial,h2,h3,h4,h5⟩
  ·subst h1;rename_i i;simp only [Wh] at h2;show (if i=id then _ else _)
   by_cases hi:i=id
   ·subst hi;rw [Af rfl];simp only [By,Ak] at h2;exact ⟨.normal,tm',H',θ',trivial,h2,h3,h4,h5⟩
   rw [Ae hi]
   have:Nat.beq i id=false:=by rw [← Nf,Nu];exact hi
   simp only [this] at h2;exact ⟨.exit i,tm',H',θ',rfl,h2,h3,h4,h5⟩
  exact ⟨.ret,tm',H',θ',trivial,h2,h3,h4,h5⟩
 | .loop b,.loop b',hk,tm,H,Q,h=>h b (by simpa [Ye] using hk)
 | .seq x y,.join x' y',hk,tm,H,Q,h=>by
  simp only [Ye,Lb] at hk;exact h x y hk.1 hk.2
 | .scope b,b',hk,tm,H,Q,h=>fun θ a w hT hH hG=>by
  have hk:Ye P b b'=true:=by simpa only [Ye] using hk
  refine wp_scope_straight (wp_mono (Q65 b b' hk tm H Q h θ a w hT hH hG) ?_)
  rintro e a' w' hp
  cases e with
  | goto l=>obtain ⟨ce,_,_,_,h1,_⟩:=hp;cases ce<;>simp [Qba] at h1
  | _=>exact hp
 | _,.cond (.c .nilPtr) .skip .skip,_,tm,H,Q,h=>(show False from h).elim
 | .skip,.exit _,hk,_,_,_,_=>by simp [Ye] at hk
theorem Qdt {a b:CC} {tm:List AV} {H:List AObj} {Q:CExit->List AV->List AObj->Prop} (h:ev (EP P Gl) a tm H fun e tm H=>match e with
  | .normal=>ev (EP P Gl) b tm H Q
  | .exit i=>Q (.exit i) tm H
  | .ret=>Q .ret tm H):Qst P Gl a b tm H Q:=
 fun ca cb ha hb=>Q65 (.seq ca cb) (.seq a b) (by simp [Ye,ha,hb]) tm H Q h
end
end
end Go.Av
