/- Part of FromsnBack: the law returns true; no condition. -/
import Derived.Test.YthbmcbacbhfnmaaGreatDoorAvStepSim
import Derived.Deep.LoopGhost
import Derived.Scope
set_option linter.all false
namespace Go.Av
noncomputable section
set_option maxHeartbeats 4000000

def Q6h (θ:Th) (S:Nat->Prop) (w:World) (args:List AV) (cargs:Array Value):Prop:=
 cargs.size=args.length∧∀ (i:Nat) v,args[i]? = some v->RelV θ S w v (cargs.getD i Qr)

structure EvoS (θ:Th) (H:List AObj) (w:World) (θ':Th) (H':List AObj) (w':World):Prop extends Evo θ H w θ' H' w' where
 len:H.length≤H'.length
 old:∀ b,b<H.length->θ' b = θ b
def EvoS.refl (θ:Th) (H:List AObj) (w:World):EvoS θ H w θ H w:=⟨.refl _ _ _,Lh _,fun _ _=>rfl⟩
def EvoS.trans {θ θ' θ'':Th} {H H' H'':List AObj} {w w' w'':World} (h:EvoS θ H w θ' H' w') (k:EvoS θ' H' w' θ'' H'' w''):EvoS θ H w θ'' H'' w'':=
 ⟨h.toEvo.trans k.toEvo,Ma h.len k.len,fun b hb=>by rw [k.old b (Lu hb h.len),h.old b hb]⟩
def Eff.len (e:Eff) (H:List AObj) (na:Nat):H.length≤(e.apply H na).length:=by
 obtain ⟨s,n⟩:=e;unfold Eff.apply;cases s<;>cases n<;>simp<;>rename_i o
 ·exact (Qba o).1
 ·rename_i q;have:=(Qba (H:=H.set q.1 q.2) (na:=na) o).1;simp_all

def Qq (P:Program) (Gl:Nat->Option (List PV)) (f:Nat) (args:List AV) (H:List AObj) (Q:AV->List AObj->Prop):Prop:=
 Qm8 P f=true∧∀ θ w cargs,Q6h θ (Qu θ H) w args cargs->Hp θ H w->GlobOK Gl θ H w ->
  Calls P f cargs w fun e w'=>∃ r cr H' θ',e = .returned cr∧Q r H'∧RelV θ' (Qu θ' H') w' r cr∧Hp θ' H' w'∧EvoS θ H w θ' H' w'

def Qjj:CExit->Exit->Prop
 | .normal,.normal=>True
 | .exit i,.exit j=>i=j
 | .ret,.ret=>True
 | _,_=>False

def Z6y (θ:Th) (H:List AObj) (w:World) (Q:CExit->List AV->List AObj->Prop) (e:Exit) (a':Act) (w':World):Prop:=
 ∃ ce tm' H' θ',Qjj ce e∧Q ce tm' H'∧TmOk θ' (Qu θ' H') w' tm' a'∧Hp θ' H' w'∧EvoS θ H w θ' H' w'

def Z0l (P:Program) (Gl:Nat->Option (List PV)) (code:Code) (tm:List AV) (H:List AObj) (Q:CExit->List AV->List AObj->Prop):Prop:=
 ∀ θ a w,TmOk θ (Qu θ H) w tm a->Hp θ H w->GlobOK Gl θ H w->code.wp P (Z6y θ H w Q) a w

def Qaj (P:Program) (Gl:Nat->Option (List PV)) (b:CC) (tm:List AV) (H:List AObj) (Q:CExit->List AV->List AObj->Prop):Prop:=
 ∀ code,Jd P code b=true->Z0l P Gl (.loop code) tm H Q
def Qa1 (P:Program) (Gl:Nat->Option (List PV)) (ops:List COper) (tm:List AV) (H:List AObj) (k:List AV->List AObj->Prop):Prop:=
 ∀ id (cops:Array Oper),Q4m P cops cops.toList ops=true->P.follows .mixedOrders=true->Qv3 cops ops=true->Z0l P Gl (.region id cops true) tm H (fun ce tm' H'=>ce = .normal∧k tm' H')

def Z85 (P:Program) (Gl:Nat->Option (List PV)) (a b:CC) (tm:List AV) (H:List AObj) (Q:CExit->List AV->List AObj->Prop):Prop:=
 ∀ ca cb,Jd P ca a=true->Jd P cb b=true->Z0l P Gl (.seq ca cb) tm H Q
noncomputable def Z03 : {f:Cmp->Int->Int->Bool // f=Q0}:=Classical.choice ⟨⟨Q0,rfl⟩⟩
noncomputable def Qpy : {f:Cmp->List UInt8->List UInt8->Bool // f=Q10}:=Classical.choice ⟨⟨Q10,rfl⟩⟩
noncomputable def Ql6:Cmp->Int->Int->Bool:=Z03.1
noncomputable def Zb7:Cmp->List UInt8->List UInt8->Bool:=Qpy.1
def cmpX_eq:Ql6=Q0:=Z03.2
def cmpY_eq:Zb7=Q10:=Qpy.2
def cX:Q0=Ql6:=cmpX_eq.symm
def cY:Q10=Zb7:=cmpY_eq.symm
noncomputable def EP (P:Program) (Gl:Nat->Option (List PV)):Env Prop := { fail:=False,cmp:=Z03,scmp:=Qpy,glob:=Gl,call:=Qq P Gl,loop:=Qaj P Gl,join:=Z85 P Gl,draw:=Qa1 P Gl }

section
variable {P:Program} {Gl:Nat->Option (List PV)}

def TmOk.mono {θ θ':Th} {H H':List AObj} {w w':World} {tm:List AV} {a:Act} (h:TmOk θ (Qu θ H) w tm a) (e:Evo θ H w θ' H' w'):TmOk θ' (Qu θ' H') w' tm a:=
 ⟨h.size,fun i v hv=>e.relV (h.val i v hv),h.defers⟩
theorem TmOk.put {θ:Th} {S:Nat->Prop} {w:World} {tm:List AV} {a:Act} (h:TmOk θ S w tm a) (d:Option Nat) {v:AV} {cv:Value} (hv:RelV θ S w v cv) :
  TmOk θ S w (match d with | some d=>tm.set d v | none=>tm) (a.put d cv):=by
 cases d with
 | none=>exact h
 | some d=>
  refine ⟨by simp [Act.put,h.size],fun i x hx=>?_,h.defers⟩;simp only [Act.put];rw [Mb,Bt]
  by_cases hd:d=i
  ·subst hd;have hlt:=(Ld.1 hx).1;simp at hlt;rw [Lt hlt] at hx;cases hx;rw [Af rfl,Af (by rw [h.size];omega)];exact hv
  rw [Ae hd,← Mb];rw [Lp hd] at hx;exact h.val i x hx
def TmOk.known {θ:Th} {S:Nat->Prop} {w:World} {tm:List AV} {a:Act} (h:TmOk θ S w tm a) {t:Nat} {b:Bool} (ht:a.tmps.getD t undef = .bool b) :
  TmOk θ S w (tm.set t (.p (.bool b))) a:=by
 refine ⟨by simp [h.size],fun i x hx=>?_,h.defers⟩
 by_cases hd:t=i
 ·grind [Q0d]
 rw [Lp hd] at hx;exact h.val i x hx
def Q0y {α:Type} (tm:List AV) (d:Option Nat) (v:AV) (k:List AV->α):put tm d v k=k (match d with | some d=>tm.set d v | none=>tm):=by
 grind [put,Qa7]

def Z0a {o:Op} {f:Nat} {args:List Opd} (hk:Qa4 P o (.call f args)=true):∃ cl,o = .call cl∧cl.callee = .value (.func f)∧Xc cl.args.toList args=true:=gZ
def Qp7 {o:Op} {f:Opd} {args:List Opd} (hk:Qa4 P o (.callv f args)=true):∃ cl,o = .call cl∧Xc cl.args.toList args=true ∧
  ((∃ g,cl.callee = .value g∧(Ql g f=true∨∃ tbls i,f = .mm tbls i∧Ql g (.t i)=true∧tbls.all (fun q=>Q9l P q.1 q.2)=true)) ∨
   (∃ recv name tbl i,cl.callee = .invoke recv name∧f = .m tbl i∧Ql recv (.t i)=true∧Q9l P name tbl=true) ∨
   (∃ recv name tbl i,cl.callee = .invoke recv name∧f = .d tbl i∧Ql recv (.t i)=true∧Qlh P name tbl=true)):=gZ
def Qhy:∀ (tbl:List (Nat×Nat)) (t f:Nat),Qg6 tbl t=some f->(t,f)∈tbl
 | [],t,f,h=>by simp [Qg6] at h
 | (u,g)::r,t,f,h=>by
  unfold Qg6 at h
  cases hb:Nat.beq u t with
  | true=>
   simp_all
  | false=>
   rw [hb] at h;simp only [Ah] at h;simp [Qhy r t f h]
def Z1e {name:String} {tbl:List (Nat×Nat)} (hm:Q9l P name tbl=true) {t f:Nat} (hf:Qg6 tbl t=some f) (w:World) (v:Value) (n:Nat):(method (n+1) t v name).run P w = .ok (f,v) w:=by
 have h1:=(Ln.1 hm) _ (Qhy tbl t f hf)
 simp only at h1
 cases hi:P.info? t with
 | none=>simp_all
 | some i=>
  simp only [hi,Mw] at h1
  cases hfd:i.methods.find? (·.name == name) with
  | none=>simp_all
  | some m=>
   simp only [hfd,Mw,Le] at h1;obtain ⟨h2,h3⟩:=h1
   have hp:m.path.toList = []:=by simp_all
   have hti:(typeInfo t).run P w = .ok i w:=run_typeInfo w hi;unfold method;simp only [Sem.run_bind,hti,Result.andThen,hfd,hp,follow,Sem.run_pure]
   cases hmf:m.func with
   | none=>simp_all
   | some q=>
    obtain ⟨g,b⟩:=q
    cases hu:P.underlying t with
    | none=>simp_all
    | some d=>
     simp only [receiverAt,Sem.run_bind,run_underlying hu,Result.andThen];rw [hmf,hu] at h3;cases b<;>cases d<;>simp at h3<;>subst h3<;>rfl
def Z2o (ts:Array TypeId) (t:TypeId) (a:Addr) (n:String) (w:World):(Builtin.ssaWrapNilChk_ ts t #[.pointer (some a),strVal "",strVal n]).run P w = .ok (.pointer (some a)) w:=rfl
def Qxn {name:String} {tbl:List (Nat×Nat)} (hm:Qlh P name tbl=true) {t f:Nat} (hf:Qg6 tbl t=some f):∃ e,Qc2 P e 1=true∧Qhu P e false=true ∧
  ∀ (w:World) (a:Addr) (v:Value) (n:Nat),(loadVar e a).run P w = .ok v w->(method (n+1) t (.pointer (some a)) name).run P w = .ok (f,v) w:=by
 have h1:=(Ln.1 hm) _ (Qhy tbl t f hf)
 simp only at h1
 cases hi:P.info? t with
 | none=>simp_all
 | some i=>
  simp only [hi,Mw] at h1
  cases hfd:i.methods.find? (·.name == name) with
  | none=>simp_all
  | some m=>
   simp only [hfd,Mw,Le] at h1;obtain ⟨h2,h3⟩:=h1
   have hp:m.path.toList = []:=by simp_all
   cases hmf:m.func with
   | none=>simp_all
   | some q=>
    obtain ⟨g,b⟩:=q
    cases hu:P.underlying t with
    | none=>simp_all
    | some d=>
     cases b with
     | true=>simp_all
     | false=>
      cases d with
      | pointer e=>
       simp only [hmf,hu,Le,Aj] at h3;obtain ⟨⟨rfl,h4⟩,h5⟩:=h3;refine ⟨e,h4,h5,fun w a v n hl=>?_⟩<;>simp_all [run_typeInfo,run_underlying,method,follow,receiverAt,Place.get,Z2o,asAddr]
      | _=>simp_all
def Qmd (A B:List Value) (i:Nat) (d:Value):(A++B).getD i d=if i<A.length then A.getD i d else B.getD (i - A.length) d:=by
 grind
def RelL (θ:Th) (S:Nat->Prop) (w:World) (cs:List AV) (vs:List Value):Prop:=vs.length=cs.length∧∀ (i:Nat) x,cs[i]? = some x->RelV θ S w x (vs.getD i Qr)
def RelL.append {θ:Th} {S:Nat->Prop} {w:World} {cs ds:List AV} {vs us:List Value} (r:RelL θ S w cs vs) (q:RelL θ S w ds us):RelL θ S w (cs++ds) (vs++us):=by
 refine ⟨by simp [r.1,q.1],fun i x hx=>?_⟩;rw [Qmd,r.1]
 by_cases hi:i<cs.length
 ·rw [Lm hi] at hx;rw [Af hi];exact r.2 i x hx
 rw [Lq (by omega)] at hx;rw [Ae hi];exact q.2 _ x hx
def RelL.args {θ:Th} {S:Nat->Prop} {w:World} {cs:List AV} {vs:List Value} (r:RelL θ S w cs vs):Q6h θ S w cs vs.toArray:=
 ⟨by simpa using r.1,fun i x hx=>by rw [Q5k];exact r.2 i x hx⟩
def RelL.ofP {θ:Th} {S:Nat->Prop} {w:World} {cs:List PV} {vs:List Value} (h1:vs.length=cs.length) (h2:∀ (i:Nat) x,cs[i]? = some x->RelP S w x (vs.getD i Qr)):RelL θ S w (cs.map .p) vs:=
 ⟨by simp_all,fun i x hx=>by
  rw [Ll] at hx
  cases hc:cs[i]? with
  | none=>simp_all
  | some y=>rw [hc] at hx;cases hx;exact .p _ _ (h2 i y hc)⟩

def Zbz (x:Value) (A:Array Value):(#[x]++A).extract 1 (#[x]++A).size=A:=by
 simp
theorem Zd0 (x:Value) (A:Array Value):(#[x]++A)[0]? = some x:=by
 grind
def Qrj (tbls:List (String×List (Nat×Nat))) (vf:AV):(∃ n v,vf = .func (.method n) [v] []∧Qqt tbls vf=Qmg (Qjr tbls n) v) ∨
  (∃ n v,vf = .p (.func (.method n) [v] [])∧Qqt tbls vf=Qmg (Qjr tbls n) (.p v))∨Qqt tbls vf=vf:=by
 unfold Qqt
 grind
def Qoh {nm:String}:∀ (tbls:List (String×List (Nat×Nat))),tbls.all (fun q=>Q9l P q.1 q.2)=true->Q9l P nm (Qjr tbls nm)=true
 | [],_=>rfl
 | (n',t')::r,h=>by
  simp only [List.all_cons,Le] at h;unfold Qjr
  cases hb:n' == nm with
  | true=>simp_all
  | false=>exact Qoh r h.2
def Qdp (C:Nat->List AV->Prop) (tm:List AV):COp->Prop
 | .call f args=>C f (args.map (Q9 tm))
 | .callv f args=>match Q9 tm f with
  | .func (.func f) first captured=>C f (first++(args.map (Q9 tm)++captured))
  | .p (.func (.func f) first captured)=>C f (first.map .p++(args.map (Q9 tm)++captured.map .p))
  | _=>False
 | _=>False
def Qi9 {θ:Th} {H:List AObj} {w:World} {a:Act} {tm:List AV} (hT:TmOk θ (Qu θ H) w tm a) {o:Oper} {c:COp} (hk:Qa4 P o.op c=true) (hc:c.isCall=true)
  {K:Act->World->Prop} {Q:Exit->Act->World->Prop} {C:Nat->List AV->Prop}
  (hC:∀ f args,C f args->Qm8 P f=true∧∀ cargs,Q6h θ (Qu θ H) w args cargs->Calls P f cargs w fun e w'=>∃ cr,e = .returned cr∧K (a.put o.dst cr) w')
  (h:Qdp C tm c):o.wp P a w K Q:=by
 have fin:∀ (f:Nat) (args:List AV) (cargs:Array Value),C f args->Q6h θ (Qu θ H) w args cargs->((execOp a.eval o).run P w = .ok (.enter f cargs) w)->o.wp P a w K Q:=by
  intro f args cargs hcall hargs hrun;unfold Oper.wp;rw [hrun];refine ((hC f args hcall).2 cargs hargs).mono ?_
  rintro e w' ⟨cr,rfl,q⟩
  exact q
 have enter:∀ (f:Nat) (cargs:Array Value),Qm8 P f=true->(callFunc f cargs).run P w = .ok (.enter f cargs) w:=aQ
 obtain ⟨dst,op,ty,pos,aft,gd⟩:=o;cases c
 case call f args=>
  obtain ⟨cl,rfl,hcal,hk2⟩:=Z0a hk;simp only [Qdp] at h;have ha:=Qbh hT _ _ hk2;have hrl:RelL θ (Qu θ H) w (args.map (Q9 tm)) (cl.args.toList.map a.eval):=⟨by simp_all,ha.2⟩
  have e:cl.args.map a.eval=(cl.args.toList.map a.eval).toArray:=by grind
  refine fin f _ (cl.args.map a.eval) h (by rw [e];exact hrl.args) ?_
  grind [execOp,resolve,Act.eval,Deferred.ofValue,invoke]
 case callv f args=>
  obtain ⟨cl,rfl,hk2,hk1⟩:=Qp7 hk;simp only [Qdp] at h;have ha:=Qbh hT _ _ hk2;have hrl:RelL θ (Qu θ H) w (args.map (Q9 tm)) (cl.args.toList.map a.eval):=⟨by simp_all,ha.2⟩
  -- a method of an interface value
  have mkey:∀ (name:String) (tbl:List (Nat×Nat)) (vr:AV) (cr:Value),Q9l P name tbl=true->RelV θ (Qu θ H) w vr cr->(match Qmg tbl vr with
    | .func (.func f) first captured=>C f (first++(args.map (Q9 tm)++captured))
    | .p (.func (.func f) first captured)=>C f (first.map .p++(args.map (Q9 tm)++captured.map .p))
    | _=>False)->∃ fid t cv,cr = .iface t cv∧((callMethod cr name (cl.args.map a.eval)).run P w = .ok (.enter fid (#[cv]++cl.args.map a.eval)) w)∧∃ av,RelV θ (Qu θ H) w av cv∧C fid (av::args.map (Q9 tm)):=by
   intro name tbl vr cr hm hr h
   have go:∀ (t:Nat) (av:AV) (cv:Value) (fid:Nat),cr = .iface t cv->RelV θ (Qu θ H) w av cv->Qg6 tbl t=some fid->C fid (av::args.map (Q9 tm)) ->
     ∃ fid t cv,cr = .iface t cv∧((callMethod cr name (cl.args.map a.eval)).run P w = .ok (.enter fid (#[cv]++cl.args.map a.eval)) w)∧∃ av,RelV θ (Qu θ H) w av cv∧C fid (av::args.map (Q9 tm)):=by
    intro t av cv fid e1 e2 e3 e4;refine ⟨fid,t,cv,e1,?_,av,e2,e4⟩;subst e1;have hpr:(program).run P w = .ok P w:=rfl;have hmr:=Z1e hm e3 w cv (P.types.size+(Made.depth - 1));have hd:P.types.size+(Made.depth - 1)+1=P.types.size+Made.depth:=rfl;rw [hd] at hmr;simp only [callMethod,Sem.run_bind,hpr,Result.andThen,hmr,enter fid _ (hC _ _ e4).1]
   cases vr<;>simp only [Qmg] at h<;>try exact h.elim
   ·rename_i x
    cases x<;>simp only at h<;>try exact h.elim
    rename_i t x
    cases hr with
    | p _ _ hp=>
     cases hp with
     | iface _ _ cv hq=>
      cases hf:Qg6 tbl t with
      | none=>simp_all
      | some fid=>rw [hf] at h;simp only [Na] at h;exact go t (.p x) cv fid rfl (.p _ _ hq) hf h
   rename_i t x;cases hr<;>grind
  rcases hk1 with ⟨g,hcal,hk1⟩ | ⟨recv,name,tbl,i,hcal,rfl,hk1,hm⟩ | ⟨recv,name,tbl,i,hcal,rfl,hk1,hm⟩
  rotate_right
  ·exact gS
  rotate_left
  ·-- invoke
   have hrf:=Ze hT hk1;obtain ⟨fid,t,cv,e1,e2,av,e3,e4⟩:=mkey name tbl (Q9 tm (.t i)) (a.eval recv) hm hrf h
   have e : #[cv]++cl.args.map a.eval=((cv::cl.args.toList.map a.eval)).toArray:=by simp
   have hr1:RelL θ (Qu θ H) w (av::args.map (Q9 tm)) (cv::cl.args.toList.map a.eval):=by grind [RelL]
   refine fin fid _ (#[cv]++cl.args.map a.eval) e4 iC ?_;have hx:(#[a.eval recv]++cl.args.map a.eval).extract 1 (#[a.eval recv]++cl.args.map a.eval).size=cl.args.map a.eval:=Zbz _ _;simp only [execOp,resolve,hcal,Sem.run_bind,Sem.run_pure,Result.andThen,invoke]
   grind [Zd0]
  rcases hk1 with hk1 | ⟨tbls,i,rfl,hk1,hms⟩
  rotate_left
  ·-- a value that may be a bound method
   have hrf:=Ze hT hk1
   have hbm:∀ (nm:String) (vr:AV) (A B:Array Value) (cr:Value),a.eval g = .func (.method nm) A B->A = #[cr]->B = #[]->RelV θ (Qu θ H) w vr cr->(match Qmg (Qjr tbls nm) vr with
    | .func (.func f) first captured=>C f (first++(args.map (Q9 tm)++captured))
    | .p (.func (.func f) first captured)=>C f (first.map .p++(args.map (Q9 tm)++captured.map .p))
    | _=>False)->Oper.wp P ⟨dst,.call cl,ty,pos,aft,gd⟩ a w K Q:=by
    intro nm vr A B cr hg hA hB hr h;subst hA hB;have hm:Q9l P nm (Qjr tbls nm)=true:=Qoh tbls hms;obtain ⟨fid,t,cv,e1,e2,av,e3,e4⟩:=mkey nm (Qjr tbls nm) vr cr hm hr h
    have e : #[cv]++cl.args.map a.eval=((cv::cl.args.toList.map a.eval)).toArray:=by simp
    have hr1:RelL θ (Qu θ H) w (av::args.map (Q9 tm)) (cv::cl.args.toList.map a.eval):=
     (show RelL θ (Qu θ H) w [av] [cv] from ⟨rfl,fun i x hx=>by
      grind⟩).append hrl
    refine fin fid _ (#[cv]++cl.args.map a.eval) e4 iC ?_;have hx:(#[cr]++cl.args.map a.eval).extract 1 (#[cr]++cl.args.map a.eval).size=cl.args.map a.eval:=Zbz _ _;have h0:(#[cr]++cl.args.map a.eval)[0]? = some cr:=Zd0 _ _;simp only [execOp,resolve,hcal,hg,Deferred.ofValue,Sem.run_bind,Sem.run_pure,Result.andThen,invoke,h0,hx,e2]
   have e0:Q9 tm (.mm tbls i)=Qqt tbls (Q9 tm (.t i)):=rfl;rw [e0] at h
   have key:(∃ fid A B first captured,a.eval g = .func (.func fid) A B∧RelL θ (Qu θ H) w first A.toList∧RelL θ (Qu θ H) w captured B.toList∧C fid (first++(args.map (Q9 tm)++captured)))∨Oper.wp P ⟨dst,.call cl,ty,pos,aft,gd⟩ a w K Q:=by
    generalize Q9 tm (.t i)=vf at h hrf;generalize hag:a.eval g=ag at hrf
    rcases Qrj tbls vf with ⟨n,v,rfl,e⟩ | ⟨n,v,rfl,e⟩ | e<;>rw [e] at h
    ·cases hrf with
     | func _ _ _ A B hA hB hav hbv=>
      obtain ⟨cr,rfl⟩:=Nj.1 (show A.size=1 by omega);have hB':B = #[]:=Ns (by omega);exact .inr (hbm _ _ _ _ cr hag rfl hB' (by simpa using hav 0 _ rfl) h)
    ·cases hrf with
     | p _ _ hp=>
      cases hp with
      | func _ _ _ A B hA hB hav hbv=>
       obtain ⟨cr,rfl⟩:=Nj.1 (show A.size=1 by omega);have hB':B = #[]:=Ns (by omega);exact .inr (hbm _ _ _ _ cr hag rfl hB' (.p _ _ (by simpa using hav 0 _ rfl)) h)
    left;split at h
    ·exact cN
    ·exact bQ
    simp_all
   rcases key with ⟨fid,A,B,first,captured,hg,hA,hB,hcall⟩ | hw
   ·exact bC
   omega
  have hrf:=Ze hT hk1
  have key:∃ fid A B first captured,a.eval g = .func (.func fid) A B∧RelL θ (Qu θ H) w first A.toList∧RelL θ (Qu θ H) w captured B.toList∧C fid (first++(args.map (Q9 tm)++captured)):=by
   generalize Q9 tm f=vf at h hrf;split at h
   ·generalize a.eval g=ag at hrf
    exact cN
   ·generalize a.eval g=ag at hrf
    exact bQ
   simp_all
  obtain ⟨fid,A,B,first,captured,hg,hA,hB,hcall⟩:=key
  exact bC
 all_goals simp_all [COp.isCall]
def Qum {θ:Th} {H:List AObj} {w:World} {a:Act} {tm:List AV} (hT:TmOk θ (Qu θ H) w tm a) (hH:Hp θ H w) (hG:GlobOK Gl θ H w) {o:Oper} {tbl:List (Nat×Nat)} {i:Nat} {args:List Opd} (hk:Qa4 P o.op (.callv (.d tbl i) args)=true)
  {K:Act->World->Prop} {Q:Exit->Act->World->Prop} {C:Nat->List AV->Prop}
  (hC:∀ f args,C f args->Qm8 P f=true∧∀ cargs,Q6h θ (Qu θ H) w args cargs->Calls P f cargs w fun e w'=>∃ cr,e = .returned cr∧K (a.put o.dst cr) w')
  {t f:Nat} {v x:AV} {cs ds:List AV} (h1:tm.getD i .any = .iface t v) (h2:Qg6 tbl t=some f) (h3:Q2q Gl H v=some cs) (h4:Q71 1 cs=some ds) (h5:sOf false ds=some x) (h:C f (x::args.map (Q9 tm))):o.wp P a w K Q:=by
 have enter:∀ (f:Nat) (cargs:Array Value),Qm8 P f=true->(callFunc f cargs).run P w = .ok (.enter f cargs) w:=aQ
 obtain ⟨dst,op,ty,pos,aft,gd⟩:=o;obtain ⟨cl,rfl,hk2,hk1⟩:=Qp7 hk
 rcases hk1 with ⟨g,_,hk1⟩ | ⟨_,_,_,_,_,e,_,_⟩ | ⟨recv,name,tbl',i',hcal,e,hk1,hm⟩
 ·rcases hk1 with hk1 | ⟨_,_,e,_,_⟩
  ·cases g<;>cases hk1
  simp_all
 ·cases e
 cases e;have ha:=Qbh hT _ _ hk2;have hrl:RelL θ (Qu θ H) w (args.map (Q9 tm)) (cl.args.toList.map a.eval):=⟨by simp_all,ha.2⟩;have hrf:=Ze hT hk1;rw [show Q9 tm (.t i) = .iface t v from h1] at hrf;generalize hag:a.eval recv=ag at hrf
 cases hrf with
 | iface _ _ cv hq=>
  obtain ⟨addr,vs,hcv,hsp,hrel,hcell⟩:=Q5q hH hG hq h3;obtain ⟨rfl,hlen⟩:=Q5s h4;have hrel':=hrel.take 1;obtain ⟨cx,hcx,hrx⟩:=Qld hrel' h5;obtain ⟨e,hz,hb,hmr⟩:=Qxn hm h2
  have hload:=Qd2 (w:=w) hz hb (addr:=addr) (vs:=vs.take 1) ji (fun j u hj=>hcell j u (by
   grind)) hcx
  have hmr:=hmr w addr cx (P.types.size+(Made.depth - 1)) hload;have hd:P.types.size+(Made.depth - 1)+1=P.types.size+Made.depth:=rfl;rw [hd] at hmr;have hpr:(program).run P w = .ok P w:=rfl
  have e2:(callMethod (.iface t cv) name (cl.args.map a.eval)).run P w = .ok (.enter f (#[cx]++cl.args.map a.eval)) w:=by grind [callMethod,Sem.run_bind,Result.andThen]
  have e : #[cx]++cl.args.map a.eval=((cx::cl.args.toList.map a.eval)).toArray:=by simp
  have hr1:RelL θ (Qu θ H) w (x::args.map (Q9 tm)) (cx::cl.args.toList.map a.eval):=
   (show RelL θ (Qu θ H) w [x] [cx] from ⟨rfl,fun i y hy=>by
    grind⟩).append hrl
  have hx:(#[Value.iface t cv]++cl.args.map a.eval).extract 1 (#[Value.iface t cv]++cl.args.map a.eval).size=cl.args.map a.eval:=Zbz _ _;have h0:(#[Value.iface t cv]++cl.args.map a.eval)[0]? = some (Value.iface t cv):=Zd0 _ _
  have hrun:(execOp a.eval ⟨dst,.call cl,ty,pos,aft,gd⟩).run P w = .ok (.enter f (#[cx]++cl.args.map a.eval)) w:=by
   simp only [execOp,resolve,hcal,hag,Sem.run_bind,Sem.run_pure,Result.andThen,invoke,h0,hx,e2]
  unfold Oper.wp;rw [hrun];refine ((hC f _ h).2 _ iC).mono ?_<;>simp_all
def Q76 {θ:Th} {H:List AObj} {w:World} {a:Act} {tm:List AV} (hT:TmOk θ (Qu θ H) w tm a) (hH:Hp θ H w) (hG:GlobOK Gl θ H w) {o:Oper} {c:COp} (hk:Qa4 P o.op c=true)
  {k:AV->List AObj->Prop} (h:Q11 (EP P Gl) tm H k c) {K:Act->World->Prop} {Q:Exit->Act->World->Prop}
  (hK:∀ v cv H' θ' w',k v H'->RelV θ' (Qu θ' H') w' v cv->Hp θ' H' w'->EvoS θ H w θ' H' w'->K (a.put o.dst cv) w'):o.wp P a w K Q:=by
 by_cases hc:c.isCall=false
 ·rw [Qgy _ _ _ _ _ hc] at h
  cases hs:step Gl tm H H.length c with
  | none=>rw [show (EP P Gl).glob=Gl from rfl,hs] at h;exact gS
  | some ve=>
   obtain ⟨v,e⟩:=ve;rw [show (EP P Gl).glob=Gl from rfl,hs] at h;obtain ⟨cv,w',θ',hr,h1,h2,h3',h4,h5⟩:=Qrz hT hH hG (.inl rfl) hk hc hs;have h3:EvoS θ H w θ' (e.apply H H.length) w':=⟨h3',e.len _ _,fun b hb=>h4 b (by omega)⟩;unfold Oper.wp
   rcases hr with hr | ⟨hr,rfl⟩
   ·rw [hr];exact hK v cv _ θ' w' h h1 h2 h3
   rw [hr];exact hK v undef _ θ' w' h h1 h2 h3
 have hCA:∀ f args,Qq P Gl f args H k->Qm8 P f=true∧∀ cargs,Q6h θ (Qu θ H) w args cargs->Calls P f cargs w fun e w'=>∃ cr,e = .returned cr∧K (a.put o.dst cr) w':=fun f args hcall=>⟨hcall.1,fun cargs hargs=>(hcall.2 θ w cargs hargs hH hG).mono (by
  grind)⟩
 cases c<;>simp_all [COp.isCall]
 ·refine Qi9 hT hk rfl (C:=fun f args=>Qq P Gl f args H k) hCA ?_;simp only [Q11,Qlz,Q1x] at h;exact h
 rename_i f args
 cases f with
 | d tbl i=>
  simp only [Q11,Qbz,Qmp,Q1x,Q41,Q7b,Q52,Q1u] at h;split at h
  ·rename_i t v hv;split at h
   ·rename_i f hf;split at h
    ·rename_i cs hcs;split at h
     ·rename_i ds hds;split at h
      ·rename_i x hx;exact Qum hT hH hG hk hCA hv hf hcs hds hx h
      exact gS
     exact gS
    exact gS
   exact gS
  exact gS
 | _=>
  refine Qi9 hT hk rfl (C:=fun f args=>Qq P Gl f args H k) hCA ?_;simp only [Q11,Qbz,Q1x,Zg,Q40,Jr] at h;simp only [Qdp];exact h
def Q63 {θ:Th} {S:Nat->Prop} {w:World} {tm:List AV} {a:Act} (hT:TmOk θ S w tm a) {t:Nat} {v:AV} (hv:tm.getD t .any=v) (hne:v ≠ .any) :
  ∃ cv,a.tmps[t]? = some cv∧a.tmps.getD t undef=cv∧RelV θ S w v cv:=by
 cases ht:tm[t]? with
 | none=>simp_all
 | some u=>
  rw [Lr,ht] at hv;simp at hv;subst hv;have hlt:=(Ld.1 ht).1;rw [← hT.size] at hlt;have h1:=hT.val t _ ht
  simp_all

def Qix (ops:Array Oper) {θ0:Th} {H0:List AObj} {w0:World} {k:List AV->List AObj->Prop} (hG0:GlobOK Gl θ0 H0 w0) {Q:Exit->Act->World->Prop}
  (hQ:∀ tm' H' θ' a' w',k tm' H'->TmOk θ' (Qu θ' H') w' tm' a'->Hp θ' H' w'->EvoS θ0 H0 w0 θ' H' w'->Q .normal a' w'):∀ (os:List Oper) (cs:List COper),Q4m P ops os cs=true->∀ tm H,Q0e (EP P Gl) k cs tm H ->
  ∀ θ a w,EvoS θ0 H0 w0 θ H w->TmOk θ (Qu θ H) w tm a->Hp θ H w ->
  wpList P ops Q os a w
 | [],[],_,tm,H,h,θ,a,w,hE,hT,hH=>hQ tm H θ a w h hT hH hE
 | o::os,c::cs,hk,tm,H,h,θ,a,w,hE,hT,hH=>by
  simp only [Q4m,Le,Aj] at hk;obtain ⟨⟨⟨hd,hop⟩,hg⟩,hrest⟩:=hk;have hG:=hG0.evo hE.toEvo
  have run:∀ tm1,TmOk θ (Qu θ H) w tm1 a->Q11 (EP P Gl) tm1 H (fun v hp=>put tm1 c.dst v fun tm=>Q0e (EP P Gl) k cs tm hp) c.op->Region.wanted o (yielded ops a.tmps)=true ->
    wpList P ops Q (o::os) a w:=by
   intro tm1 hT1 hev hw;unfold wpList;rw [Af hw];refine .inl (Q76 hT1 hH hG hop hev (fun v cv H' θ' w' hkv hrv hH' hE'=>?_));rw [Q0y] at hkv;exact Qix ops hG0 hQ os cs hrest _ H' hkv θ' _ w' (hE.trans hE') di hH'
  have skip:∀ tm1,TmOk θ (Qu θ H) w tm1 a->(put tm1 c.dst Uw fun tm=>Q0e (EP P Gl) k cs tm H)->Region.wanted o (yielded ops a.tmps)=false ->
    wpList P ops Q (o::os) a w:=by
   intro tm1 hT1 hev hw;unfold wpList;rw [Ae (by simp_all)];rw [Q0y] at hev;exact Qix ops hG0 hQ os cs hrest _ H hev θ _ w hE d8 hH
  simp only [Q4j] at h
  cases hgc:c.guard with
  | none=>
   grind [Wd,Region.wanted]
  | some tb=>
   obtain ⟨t,want⟩:=tb;rw [hgc] at h hg
   cases hgo:o.guard with
   | none=>simp_all [Wd]
   | some jb=>
    obtain ⟨j,b⟩:=jb;rw [hgo] at hg;simp only [Wd,Le,Aj] at hg;obtain ⟨rfl,hj⟩:=hg;simp only [Q41] at h;generalize hvt:tm.getD t .any=vt at h;split at h
    ·rename_i x;obtain ⟨cv,e1,e2,e3⟩:=Q63 hT hvt (by simp);have:=Q8h e3;subst this;have hk1:=hT.known e2
     grind [yielded,Qa7,Q4i,Region.wanted]
    ·obtain ⟨cv,e1,e2,e3⟩:=Q63 hT hvt (by simp)
     have hcv:cv = .tuple #[]:=dx
     grind [yielded,Region.wanted]
    exact gS
 | [],_::_,hk,_,_,_,_,_,_,_,_,_=>by simp_all [Q4m]
 | _::_,[],hk,_,_,_,_,_,_,_,_,_=>by simp_all [Q4m]

def Qdx:∀ (code:Code) (c:CC),Jd P code c=true->∀ tm H Q,ev (EP P Gl) c tm H Q->Z0l P Gl code tm H Q
 | .label _,.skip,_,tm,H,Q,h=>fun θ a w hT hH hG=>wp_label ⟨.normal,tm,H,θ,trivial,h,hT,hH,.refl _ _ _⟩
 | .skip,.skip,_,tm,H,Q,h=>fun θ a w hT hH hG=>wp_skip ⟨.normal,tm,H,θ,trivial,h,hT,hH,.refl _ _ _⟩
 | .exit id,.exit id',hk,tm,H,Q,h=>fun θ a w hT hH hG=>by
  simp only [Jd,Aj] at hk;subst hk;exact wp_exit ⟨.exit id,tm,H,θ,rfl,h,hT,hH,.refl _ _ _⟩
 | .ret,.ret,_,tm,H,Q,h=>fun θ a w hT hH hG=>wp_ret ⟨.ret,tm,H,θ,trivial,h,hT,hH,.refl _ _ _⟩
 | .region id ops d,.region d' cs,hk,tm,H,Q,h=>fun θ a w hT hH hG=>by
  simp only [Jd,Le,Aj] at hk;obtain ⟨⟨rfl,hk⟩,hst⟩:=hk
  cases d with
  | false=>
   exact wp_region_list (Qix ops hG (fun tm' H' θ' a' w' h1 h2 h3 h4=>⟨.normal,tm',H',θ',trivial,h1,h2,h3,h4⟩) ops.toList cs hk tm H h θ a w (.refl _ _ _) hT hH)
  | true=>
   simp only [Bool.not_true,Bool.false_or,Le] at hst;refine wp_mono (h id ops hk hst.1 hst.2 θ a w hT hH hG) ?_
   rintro e a' w' ⟨ce,tm',H',θ',h1,⟨rfl,h2⟩,h3,h4,h5⟩
   exact ⟨.normal,tm',H',θ',h1,h2,h3,h4,h5⟩
 | .seq x y,.seq x' y',hk,tm,H,Q,h=>fun θ a w hT hH hG=>by
  simp only [Jd,Le] at hk;refine wp_seq (wp_mono (Qdx x x' hk.1 tm H _ h θ a w hT hH hG) ?_)
  rintro e a' w' ⟨ce,tm',H',θ',h1,h2,h3,h4,h5⟩
  cases ce<;>cases e<;>simp only [Qjj] at h1
  ·refine wp_mono (Qdx y y' hk.2 tm' H' _ h2 θ' a' w' h3 h4 (hG.evo h5.toEvo)) ?_
   rintro e a'' w'' ⟨ce,tm'',H'',θ'',q1,q2,q3,q4,q5⟩
   exact ⟨ce,tm'',H'',θ'',q1,q2,q3,q4,h5.trans q5⟩
  ·subst h1;exact ⟨.exit _,tm',H',θ',rfl,h2,h3,h4,h5⟩
  exact ⟨.ret,tm',H',θ',trivial,h2,h3,h4,h5⟩
 | .cond c x y,.cond c' x' y',hk,tm,H,Q,h=>fun θ a w hT hH hG=>by
  simp only [Jd,Le] at hk;obtain ⟨⟨h1,h2⟩,h3⟩:=hk;simp only [Qzs,Zg] at h;have hr:=Ze hT h1;generalize Q9 tm c'=vc at h hr;split at h
  ·rename_i b;refine wp_cond (Q8h hr) ?_;rw [Q4i] at h;cases b
   ·exact Qdx y y' h3 tm H Q (by simp_all) θ a w hT hH hG
   exact Qdx x x' h2 tm H Q (by simp_all) θ a w hT hH hG
  exact gS
 | .block id b,.block id' b',hk,tm,H,Q,h=>fun θ a w hT hH hG=>by
  simp only [Jd,Le,Aj] at hk;obtain ⟨rfl,hk⟩:=hk;refine wp_block (wp_mono (Qdx b b' hk tm H _ h θ a w hT hH hG) ?_)
  rintro e a' w' ⟨ce,tm',H',θ',h1,h2,h3,h4,h5⟩
  cases ce<;>cases e<;>simp only [Qjj] at h1
  ·exact ⟨.normal,tm',H',θ',trivial,h2,h3,h4,h5⟩
  ·subst h1;rename_i i;simp only [Q4i] at h2;show (if i=id then _ else _)
   by_cases hi:i=id
   ·subst hi;rw [Af rfl];simp only [Nat.beq_refl,Ak] at h2;exact ⟨.normal,tm',H',θ',trivial,h2,h3,h4,h5⟩
   rw [Ae hi]
   have:Nat.beq i id=false:=by grind [Nat.beq_eq]
   simp only [this] at h2;exact ⟨.exit i,tm',H',θ',rfl,h2,h3,h4,h5⟩
  exact ⟨.ret,tm',H',θ',trivial,h2,h3,h4,h5⟩
 | .loop b,.loop b',hk,tm,H,Q,h=>h b iO
 | .seq x y,.join x' y',hk,tm,H,Q,h=>by
  simp only [Jd,Le] at hk;exact h x y hk.1 hk.2
 | .scope b,b',hk,tm,H,Q,h=>fun θ a w hT hH hG=>by
  have hk:Jd P b b'=true:=iO
  refine wp_scope_straight (wp_mono (Qdx b b' hk tm H Q h θ a w hT hH hG) ?_)
  rintro e a' w' hp
  cases e with
  | goto l=>obtain ⟨ce,_,_,_,h1,_⟩:=hp<;>simp_all [Qjj]
  | _=>exact hp
 | _,.cond (.c .nilPtr) .skip .skip,_,tm,H,Q,h=>(show False from h).elim
 | .skip,.exit _,hk,_,_,_,_=> iO
def Q6x {a b:CC} {tm:List AV} {H:List AObj} {Q:CExit->List AV->List AObj->Prop} (h:ev (EP P Gl) a tm H fun e tm H=>match e with
  | .normal=>ev (EP P Gl) b tm H Q
  | .exit i=>Q (.exit i) tm H
  | .ret=>Q .ret tm H):Z85 P Gl a b tm H Q:=
 fun ca cb ha hb=>Qdx (.seq ca cb) (.seq a b) iO tm H Q h
end
end
end Go.Av
