/- Part of FromsnNames: the law returns true; no condition. -/
import Derived.Test.YtfgpphgmjcnleaaGreatDoorRegS
set_option linter.all false
namespace Go.Av
noncomputable section
section
variable {P:Program} {Gl:Nat->Option (List PV)}
theorem Qmz {pre:List COper} {c0:COper} {suf:List COper} {tm:List AV} {H:List AObj} {k:List AV->List AObj->Prop} (htail:∀ c∈c0::suf,∀ b,b<pre.length->c.bef.testBit b=true)
  (h:Zk (EP P Gl) (Qv P Gl) (fun tm H=>Q42 P Gl k (pre++c0::suf) (suf.length+1) (2 ^ pre.length - 1) tm H) pre tm H 0 []):Q27 P Gl (pre++c0::suf) tm H k:=by
 intro id ops hk hm hst θ a w hT hH hG;obtain ⟨_,tms,Hs,vs,es,Rs,As,rfl,rfl,hkk,hpath,hap⟩:=Q24 pre tm H 0 [] h;obtain ⟨s1,s2⟩:=Vr ops.toList _ hk;simp only [Qgh,Lb] at hst
 have tol:∀ (i:Nat) o,ops[i]? = some o->ops.toList[i]? = some o:=fun i o h=>by simpa using h
 have hsz:ops.size=(pre++c0::suf).length:=by simpa using s1
 have hszn:ops.size=pre.length+(suf.length+1):=by rw [hsz];simp
 have inpre:∀ {i:Nat} {c:COper},pre[i]? = some c->i<pre.length∧(pre++c0::suf)[i]? = some c:=fun {i c} hc=>by
  have hlt:=(La.1 hc).1;exact ⟨hlt,by rw [Lh hlt];exact hc⟩
 have hed:EdgeOk ops (pre++c0::suf):=fun i o c ho hc=>by
  have:=Q09 ops.toList _ 0 hst.1 i o c (tol i o ho) hc;simpa using this
 have hop:∀ (i:Nat) o c,ops[i]? = some o->(pre++c0::suf)[i]? = some c->o.dst=c.dst∧Q1t P o.op c.op=true∧Z3 ops o.guard c.guard=true:=fun i o c ho hc=>s2 i o c (tol i o ho) hc
 have hbef:∀ (i:Nat) c,pre.length≤i->(pre++c0::suf)[i]? = some c->∀ b,b<pre.length->c.bef.testBit b=true:=fun i c hi hc b hb=>by
  rw [Lm hi] at hc;exact htail c (Mk hc) b hb
 have p:Plan P Gl ops pre tms Hs vs es Rs As:=by
  refine { toPath:=hpath,size:=by omega,apart:=fun i i' c c' hlt hc hc'=>?_,op:=fun i o c ho hc=>hop i o c ho (inpre hc).2,edge:=fun i o c ho hc=>?_,slot:=fun i c t hc hd j d hj hne=>?_ }
  ·have:=(hap i c hc).2 i' c' hlt hc';simpa using this
  ·obtain ⟨q1,q2⟩:=hed i o c ho (inpre hc).2;refine ⟨q1,?_⟩;rw [← q2,Q3q (fun e he hb=>by have:=q1 e he hb;have:=(inpre hc).1;omega)]
  have:=Q0b _ 0 hst.2 i c t (inpre hc).2 hd j d (inpre hj).2 (by simpa using hne);simpa using this
 refine wp_region_any hm ?_
 let w1:World := { w with drawn:=w.drawn+1 }
 have e1:Evo θ (Hs 0) w θ (pad (Hs pre.length).length (Hs 0)) w1:=Q7m θ (Hs 0) w _ _;have h01:(Hs 0).length≤(Hs pre.length).length:=p.len' (Nh _) (Lj _)
 have main:∀ (fuel:Nat) (listed:Array Bool) (θ':Th) (tm':List AV) (H':List AObj) (a':Act) (w':World),listed.size=ops.size->listed.toList.count false≤fuel ->
   (∀ i,pre.length≤i->i<ops.size->listed.getD i false=false) ->
   InvD pre tms Hs es θ w1 (fun i=>listed.getD i false=true) θ' tm' H' a' w' ->
   wpAny P .any ops (Qp0 θ (Hs 0) w (fun ce tm' H'=>ce = .normal∧k tm' H')) fuel listed a' w':=by
  intro fuel
  induction fuel with
  | zero=>
   intro listed θ' tm' H' a' w' hls hcnt hun inv;exfalso
   have hlt:pre.length<listed.size:=by omega
   have hq:=hun pre.length (Lj _) (by omega)
   have:false∈listed.toList:=by
    rw [Mf];refine ⟨pre.length,?_⟩;simp [Array.getD,hlt] at hq;simp [hlt,hq]
   have:=Ms.2 this;omega
  | succ fuel ih=>
   intro listed θ' tm' H' a' w' hls hcnt hun inv
   by_cases hall:∀ i,i<pre.length->listed.getD i false=true
   ·-- all of the first part is done
    have hallI:∀ i,i<pre.length->(i<pre.length↔listed.getD i false=true):=fun i hi=>⟨fun _=>hall i hi,fun _=>hi⟩
    have e2:tm'=tms pre.length:=by
     apply Mb;intro t;exact inv.sl t pre.length (Lj _) (fun i c hc _=>hallI i (La.1 hc).1)
    have e3:H'=Hs pre.length:=by
     apply Mb;intro x;rw [inv.hp x pre.length (Lj _) (fun i hi _=>hallI i hi),Q6u]
    subst e2;subst e3
    have hlist:listed.toList=List.replicate pre.length true++List.replicate (suf.length+1) false:=by
     apply Mb;intro i
     by_cases hi:i<pre.length
     ·have hlt:i<listed.size:=by omega
      have hq:=hall i hi;simp [Array.getD,hlt] at hq;rw [Lh (by simpa using hi),Mi,Af hi];simp [hlt,hq]
     rw [Lm (by simp;omega),Mi,Bk];split
     ·rename_i h2
      have hlt:i<listed.size:=by omega
      have hq:=hun i (by omega) (by omega);simp [Array.getD,hlt] at hq;simp [hlt,hq]
     rename_i h2
     have hge:¬ i<listed.size:=by omega
     simp [hge]
    have hcn:listed.toList.count false=suf.length+1:=by
     rw [hlist,List.count_append,List.count_replicate,List.count_replicate];simp
    refine Q6o hsz hed hop hG (k:=k) (fun tm3 H3 θ3 a3 w3 hk3 t3 h3 ev3=>⟨.normal,_,_,θ3,trivial,⟨rfl,hk3⟩,t3,h3,ev3⟩) (suf.length+1) (2 ^ pre.length - 1) _ _ hkk θ' a' w'
     ⟨e1.trans inv.evo,h01,inv.old⟩ inv.hT inv.hH (fuel+1) listed hls (fun i hi=>?_) (fun i c b hc hl hb=>?_) hcn (by omega)
    ·rw [Lw,Ag];refine ⟨fun hl=>?_,fun hl=>hall i hl⟩;apply Ln;intro hn;have:=hun i (by omega) hi;rw [this] at hl;cases hl
    rw [Lw,Ag] at hl ⊢;have:=hed.lt hsz i c b hc hb;omega
   refine ⟨fun hr=>?_,fun j hj=>?_⟩
   ·exfalso;apply hall;intro j
    induction j using Nat.strongRecOn with
    | _ j ihj=>
     intro hj;apply Ln;intro hn
     have hjs:j<ops.size:=by omega
     have ho:=Lr hjs;have hc:=Lc hj
     have:j∈Region.ready .any ops listed:=by
      rw [mem_ready];refine ⟨?_,_,ho,fun e he hb=>?_⟩
      ·have hlt:j<listed.size:=by omega
       simp [Array.getD,hlt] at hn ⊢;exact hn
      have hlt:=(p.edge j _ _ ho hc).1 e he hb;exact ihj e.on hlt (by omega)
     rw [hr] at this;cases this
   rw [mem_ready] at hj;obtain ⟨h0,o,ho,he⟩:=hj
   have hlt:j<listed.size:=by rw [hls];exact (Ls.1 ho).1
   have hget:listed[j]=false:=by simp [Array.getD,hlt] at h0;exact h0
   have hjp:j<pre.length:=by
    apply Ln;intro hn;have hcj:(pre++c0::suf)[j]? = some (pre++c0::suf)[j]:=Lc (by omega);apply hall;intro i hi;have hb:=hbef j _ (by omega) hcj i hi
    exact hed.closed (L:=fun i=>listed.getD i false=true) (j:=j) (fun i c b _ hc hL hb=>by
     by_cases hip:i<pre.length
     ·rw [Lh hip] at hc;exact inv.clo i c b hc hL hb
     exfalso;have hil:i<(pre++c0::suf).length:=(La.1 hc).1;have:=hun i (by omega) (by omega)
     rw [this] at hL;cases hL) ho hcj he hb
   refine inv.goes p ((hG.evo e1).evo inv.evo) hjp ho (by simp [Array.getD,hlt,hget]) he (fun θ2 tm2 H2 a2 w2 inv2=>ih _ θ2 tm2 H2 a2 w2 (by simp [hls]) ?_ ?_ ?_)
   ·rw [My,Bi (by simpa using hlt)];have hmem:false∈listed.toList:=Mf.2 ⟨j,by simp [hlt,hget]⟩;have:=Ms.2 hmem
    have e3:listed.toList[j]'(by simpa using hlt)=false:=by simpa using hget
    rw [e3];have q1:(if (false == false)=true then 1 else 0)=1:=rfl;have q2:(if (true == false)=true then 1 else 0)=0:=rfl;rw [q1,q2];omega
   ·intro i hi1 hi2;rw [getD_set_ne false (by omega:j≠i)];exact hun i hi1 hi2
   have e:(fun i=>listed.getD i false=true∨i=j)=(fun i=>(listed.setIfInBounds j true).getD i false=true):=by
    funext i
    apply propext
    by_cases hij:i=j
    ·subst hij;simp [Array.getD,hlt]
    simp only [hij,or_false];rw [getD_set_ne false (fun e=>hij e.symm)]
   rw [← e];exact inv2
 refine main ops.size _ θ (tms 0) (pad (Hs pre.length).length (Hs 0)) a w1 (by simp) (by simp) (fun i _ hi=>by simp [Array.getD,hi]) ?_;refine ⟨hT.mono e1,Qf7 hH _ _,.refl _ _ _,fun _ _=>rfl,Q7k h01,rfl,?_,?_,?_,?_⟩
 ·intro j c b _ h;exfalso;revert h;simp only [Array.getD]
  split<;>simp
 ·intro t j hj hcond
  have hno:∀ i c,0≤i->i<0+j->pre[i]? = some c->c.dst≠some t:=fun i c _ hlt hc hd=>by
   have:=(hcond i c hc hd).1 (by omega);simp [Array.getD] at this
  have:=p.tsame (i:=0) (t:=t) j (by omega) hno;rw [← this,Lv]
 ·intro x j hj hcond
  have hno:∀ i,0≤i->i<0+j->¬ Aff Hs es i x:=fun i _ hlt ha=>by
   have:=(hcond i (by omega) ha).1 (by omega);simp [Array.getD] at this
  have:=p.same (i:=0) (x:=x) (N:=(Hs pre.length).length) (Lj _) j (by omega) hno;rw [← this,Lv]
 intro j hj _ i _;have:=p.len' (Nh j) (by omega);exact hH.fresh _ (by omega)
theorem Qcz {f:Nat->COper->Prop} {L:Nat}:∀ (cs:List COper) (j:Nat),(∀ (i:Nat) c,cs[i]? = some c->L.testBit (j+i)=false->Qra c.bef L=true->f (j+i) c)->Qoa f L j cs
 | [],_,_=>trivial
 | d::r,j,h=>by
  refine ⟨?_,Qcz r (j+1) fun i c hc hl hb=>?_⟩
  ·cases h1:L.testBit j with
   | true=>exact trivial
   | false=>
    cases h2:Qra d.bef L with
    | false=>exact trivial
    | true=>exact h 0 d rfl h1 h2
  have:=h (i+1) c (by simpa using hc) (by rw [← hl];congr 1;omega) hb
  rwa [show j+(i+1)=j+1+i by omega] at this
theorem Qh7 {a L:Nat} (h:Qra a L=true) (b:Nat) (hb:a.testBit b=true):L.testBit b=true:=by
 have:=Na h
 have e:(a &&& L).testBit b=true:=by show (Nat.land a L).testBit b=true;rw [this];exact hb
 rw [Nat.testBit_and,Lb] at e;exact e.2
def Qes (tm:List AV):COp->Option AV
 | .move x=>some (Q1 tm x)
 | .build z ps=>(Q1e tm (z.map .p) ps).map .agg
 | _=>none
def Qcy (c:COper) (tm:List AV):Option (List AV):=match c.guard with
 | none=>(Qes tm c.op).map fun v=>Q0v tm c.dst v
 | some (t,want)=>match tm.getD t .any with
  | .p (.bool b)=>if b=want then (Qes tm c.op).map fun v=>Q0v tm c.dst v else some (Q0v tm c.dst Zd)
  | .p (.tuple [])=>some (Q0v tm c.dst Zd)
  | _=>none
def Q46:COp->Bool
 | .move _=>true
 | .build _ _=>true
 | _=>false
theorem Qq3 {tm:List AV} {H:List AObj} {k:AV->List AObj->Prop} {c:COp} (hc:Q46 c=true):X3 (EP P Gl) tm H k c=(match Qes tm c with | some v=>k v H | none=>False):=by
 cases c<;>simp only [Q46] at hc<;>try (cases hc;done)
 ·simp only [X3,Q9r,Qi,Qes]
 rename_i z ps;simp only [X3,Qd2,Zu,Q8o,Qes]
 cases Q1e tm (z.map .p) ps with
 | none=>rfl
 | some cs=>rfl
theorem Q90 {c:COper} {r:List COper} {tm:List AV} {H:List AObj} {k:List AV->List AObj->Prop} (hc:Q46 c.op=true):Zc (EP P Gl) k (c::r) tm H=(match Qcy c tm with | some tm'=>Zc (EP P Gl) k r tm' H | none=>False):=by
 have run:∀ tm,X3 (EP P Gl) tm H (fun v hp=>put tm c.dst v fun tm=>Zc (EP P Gl) k r tm hp) c.op=(match (Qes tm c.op).map (fun v=>Q0v tm c.dst v) with | some tm'=>Zc (EP P Gl) k r tm' H | none=>False):=fun tm=>by
  rw [Qq3 hc]
  cases Qes tm c.op with
  | none=>rfl
  | some v=>show put tm c.dst v _=_;rw [Y2];rfl
 rw [Wt];unfold Qcy
 cases hg:c.guard with
 | none=>simp only [];exact run tm
 | some tw=>
  obtain ⟨t,want⟩:=tw;simp only [Wl];generalize hv:tm.getD t .any=v;split
  ·rename_i b;simp only [Gt];have hs:∀ b',b=b'->tm.set t (.p (.bool b'))=tm:=fun b' e=>Qi9 (by rw [← e];exact hv) (by simp);cases b
   ·rw [hs false rfl];cases want
    ·simp only [Wh,Lu,Al,Ak];exact run tm
    simp only [Wh,Lu,Al,Ak,Y2];rfl
   rw [hs true rfl];cases want
   ·simp only [Wh,Ns,Al,Ak,Y2];rfl
   simp only [Wh,Ak];exact run tm
  ·simp only [Y2];rfl
  rename_i h1 h2
  have hn:∀ (X:Bool->Option (List AV)) (Y:Option (List AV)),(match v with | .p (.bool b)=>X b | .p (.tuple [])=>Y | _=>none)=none:=fun X Y=>by
   split
   all_goals first
    | rfl
    | exact (h1 _ rfl).elim
    | exact (h2 rfl).elim
  rw [hn (fun b=>if b=want then (Qes tm c.op).map (fun v=>Q0v tm c.dst v) else some (Q0v tm c.dst Zd)) (some (Q0v tm c.dst Zd))]
  try rfl
theorem Qiq {tm tm':List AV} {c:COp} (hc:Q46 c=true) (h:∀ t∈c.slots,tm'.getD t .any=tm.getD t .any):Qes tm' c=Qes tm c:=by
 cases c<;>simp only [Q46] at hc<;>try (cases hc;done)
 ·simp only [Qes];rw [Jx h]
 simp only [Qes];rw [Q2e _ _ h]
def Qhj (a b:COper):Bool:=Q46 a.op&&Q46 b.op&&(match a.dst,b.dst with
 | some x,some y=>x != y && !(a.slots.contains y) && !(b.slots.contains x)
 | _,_=>false)
theorem Qhn {tm:List AV} {x t:Nat} {v:AV} (h:x≠t):(Q0v tm (some x) v).getD t .any=tm.getD t .any:=by
 show (tm.set x v).getD t .any=_;rw [Le,Lg h,← Le]
theorem Qex {c:COper} {tm:List AV} {x:Nat} {v:AV} {y:Nat} (hc:Q46 c.op=true) (hd:c.dst=some y) (hxy:x≠y) (hx:c.slots.contains x=false):Qcy c (Q0v tm (some x) v)=(Qcy c tm).map fun tm'=>Q0v tm' (some x) v:=by
 have hsl:∀ t∈c.op.slots,(Q0v tm (some x) v).getD t .any=tm.getD t .any:=fun t ht=>Qhn fun e=>by
  subst e;have:x∈c.slots:=Ma.2 (.inl ht);rw [List.contains_eq_mem] at hx;simp [this] at hx
 have hcomm:∀ u,Q0v (Q0v tm (some x) v) (some y) u=Q0v (Q0v tm (some y) u) (some x) v:=fun u=>List.set_comm _ _ hxy;unfold Qcy;rw [Qiq hc hsl,hd]
 have run:(Qes tm c.op).map (fun u=>Q0v (Q0v tm (some x) v) (some y) u)=((Qes tm c.op).map fun u=>Q0v tm (some y) u).map fun tm'=>Q0v tm' (some x) v:=by
  cases Qes tm c.op with
  | none=>rfl
  | some u=>simp only [Mc,hcomm]
 cases hg:c.guard with
 | none=>exact run
 | some tw=>
  obtain ⟨t,want⟩:=tw
  have ht:(Q0v tm (some x) v).getD t .any=tm.getD t .any:=Qhn fun e=>by
   subst e
   have:x∈c.slots:=by unfold COper.slots;rw [hg];exact Ma.2 (.inr (.head _))
   rw [List.contains_eq_mem] at hx;simp [this] at hx
  simp only [ht];split
  ·split
   ·exact run
   simp only [Mc,hcomm]
  ·simp only [Mc,hcomm]
  rfl
theorem Qj0 {a b:COper} {r:List COper} {tm:List AV} {H:List AObj} {k:List AV->List AObj->Prop} (hl:Qhj a b=true) (h:Zc (EP P Gl) k (a::b::r) tm H):Zc (EP P Gl) k (b::a::r) tm H:=by
 unfold Qhj at hl;simp only [Lb] at hl;obtain ⟨⟨ha,hb⟩,hl⟩:=hl
 cases hda:a.dst with
 | none=>rw [hda] at hl;cases hl
 | some x=>
  cases hdb:b.dst with
  | none=>rw [hda,hdb] at hl;cases hl
  | some y=>
   rw [hda,hdb] at hl;simp only [Lb,bne_iff_ne,ne_eq,Nt] at hl;obtain ⟨⟨hxy,hay⟩,hbx⟩:=hl;rw [Q90 ha] at h;rw [Q90 hb]
   have key:∀ (c:COper) (x:Nat),c.dst=some x->∀ tm',Qcy c tm=some tm'->∃ v,tm'=Q0v tm (some x) v:=fun c x hd tm' e=>by
    unfold Qcy at e;rw [hd] at e;split at e
    ·cases hv:Qes tm c.op with
     | none=>rw [hv] at e;cases e
     | some v=>rw [hv] at e;cases e;exact ⟨v,rfl⟩
    split at e
    ·split at e
     ·cases hv:Qes tm c.op with
      | none=>rw [hv] at e;cases e
      | some v=>rw [hv] at e;cases e;exact ⟨v,rfl⟩
     cases e;exact ⟨_,rfl⟩
    ·cases e;exact ⟨_,rfl⟩
    cases e
   cases ea:Qcy a tm with
   | none=>rw [ea] at h;exact h.elim
   | some t1=>
    rw [ea] at h;simp only [] at h;rw [Q90 hb] at h;obtain ⟨v,rfl⟩:=key a x hda t1 ea;rw [Qex hb hdb hxy hbx] at h
    cases eb:Qcy b tm with
    | none=>rw [eb] at h;exact h.elim
    | some t2=>
     rw [eb] at h;obtain ⟨u,rfl⟩:=key b y hdb t2 eb;simp only [Mc] at h ⊢;rw [Q90 ha,Qex ha hda (Ne.symm hxy) hay,ea];simp only [Mc]
     rwa [show Q0v (Q0v tm (some x) v) (some y) u=Q0v (Q0v tm (some y) u) (some x) v from List.set_comm _ _ hxy]
theorem Q5h {K K':List AV->List AObj->Prop} (hk:∀ tm H,K tm H->K' tm H) {tm:List AV} {H:List AObj}:∀ (cs:List COper),Zc (EP P Gl) K cs tm H->Zc (EP P Gl) K' cs tm H:=by
 intro cs
 induction cs generalizing tm H with
 | nil=>exact hk tm H
 | cons c r ih=>
  have hop:∀ tm,X3 (EP P Gl) tm H (fun v hp=>put tm c.dst v fun tm=>Zc (EP P Gl) K r tm hp) c.op->X3 (EP P Gl) tm H (fun v hp=>put tm c.dst v fun tm=>Zc (EP P Gl) K' r tm hp) c.op:=fun tm h=>by
   have kk:∀ v hp,(put tm c.dst v fun tm=>Zc (EP P Gl) K r tm hp)->(put tm c.dst v fun tm=>Zc (EP P Gl) K' r tm hp):=fun v hp h=>by rw [Y2] at h ⊢;exact ih h
   by_cases hc:c.op.isCall=false
   ·rw [Q3n _ _ _ _ _ hc] at h ⊢
    cases hs:Ql (EP P Gl).glob tm H H.length c.op with
    | none=>rw [hs] at h;exact h.elim
    | some ve=>
     obtain ⟨v,e⟩:=ve;rw [hs] at h;exact kk _ _ h
   revert h hc;generalize c.op=op;intro h hc
   cases op<;>try (simp [COp.isCall] at hc;done)
   case call f args=>
    simp only [X3,Qap,Ys] at h ⊢;exact Qo h kk
   case callv f args=>
    cases f with
    | d tbl i=>
     simp only [X3,Q17,Q8v,Ys,Wl,Ju,U7,Xy] at h ⊢
     repeat' split at h
     all_goals first
      | exact h.elim
      | skip
     exact Qo h kk
    | _=>
     simp only [X3,Q17,Ys,Qi,Vn,Zu] at h ⊢;split at h
     ·exact Qo h kk
     ·exact Qo h kk
     exact h.elim
  have hskip:∀ tm,(put tm c.dst Zd fun tm=>Zc (EP P Gl) K r tm H)->(put tm c.dst Zd fun tm=>Zc (EP P Gl) K' r tm H):=fun tm h=>by rw [Y2] at h ⊢;exact ih h
  intro h;simp only [Wt] at h ⊢
  cases hg:c.guard with
  | none=>rw [hg] at h;exact hop tm h
  | some tw=>
   obtain ⟨t,want⟩:=tw;rw [hg] at h;simp only [Wl,Gt,Wh] at h ⊢;split at h
   ·rename_i b hv
    cases b<;>cases want<;>simp only [Ak,Al,Lu] at h ⊢ <;> first | exact hop _ h | exact hskip _ h
   ·exact hskip _ h
   exact h.elim
def Qmp (s:Nat):Nat->List COper->Bool
 | _,[]=>true
 | j,c::r=>Nat.beq c.bef (match Nat.beq j (s+1) with | true=>2 ^ s - 1 | false=>2 ^ j - 1)&&Qmp s (j+1) r
theorem Qbn {s:Nat}:∀ (r:List COper) (j:Nat),Qmp s j r=true->∀ (i:Nat) c,r[i]? = some c->c.bef=if j+i=s+1 then 2 ^ s - 1 else 2 ^ (j+i) - 1
 | [],_,_,i,c,h=>by simp at h
 | d::r,j,ht,i,c,h=>by
  simp only [Qmp,Lb] at ht;obtain ⟨h1,h2⟩:=ht
  cases i with
  | zero=>
   simp at h;subst h;have h1:=Na h1;simp only [h1,Nc]
   by_cases e:j=s+1
   ·rw [Af e,e,By]
   rw [Ae e,show Nat.beq j (s+1)=false by rw [← Nf,Nu];exact e]
  | succ i=>
   have:=Qbn r (j+1) h2 i c (by simpa using h)
   rwa [show j+1+i=j+(i+1) by omega] at this
theorem Qp6 (q:Nat):Nat.lor (2 ^ q - 1) (2 ^ q)=2 ^ (q+1) - 1:=by
 apply Ca;intro b;rw [Q5t,Lw,Lw]
 by_cases h1:b<q
 ·simp [h1,show b<q+1 by omega]
 by_cases h2:q=b
 ·subst h2;simp
 simp [h1,h2,show ¬ b<q+1 by omega]
theorem Qni (s:Nat):Nat.lor (Nat.lor (2 ^ s - 1) (2 ^ (s+1))) (2 ^ s)=2 ^ (s+2) - 1:=by
 apply Ca;intro b;rw [Q5t,Q5t,Lw,Lw]
 by_cases h1:b<s
 ·simp [h1,show b<s+2 by omega]
 by_cases h2:s=b
 ·subst h2;simp
 by_cases h3:s+1=b
 ·subst h3;simp
 simp [h1,h2,h3,show ¬ b<s+2 by omega]
theorem Q5s {cs:List COper} {k:List AV->List AObj->Prop} {s p:Nat} {a b:COper} (ha:cs[s]? = some a) (hb:cs[s+1]? = some b) (hl:Qhj a b=true) (ht:∀ (i:Nat) c,p≤i->cs[i]? = some c->c.bef=if i=s+1 then 2 ^ s - 1 else 2 ^ i - 1) :
  ∀ (n q:Nat) tm H,q+n=cs.length->p≤q->Zc (EP P Gl) k (cs.drop q) tm H->Q42 P Gl k cs n (2 ^ q - 1) tm H
 | 0,q,tm,H,hq,hp,h=>by
  rw [List.drop_eq_nil_iff.2 (by omega)] at h;exact h
 | n+1,q,tm,H,hq,hp,h=>by
  have hql:q<cs.length:=by omega
  have hcons:cs.drop q=cs[q]::cs.drop (q+1):=Cn hql;refine Qcz cs 0 fun i c hc hL hB=>?_;rw [Lv] at hL ⊢
  have hqi:q≤i:=by
   rw [Lw,An] at hL;omega
  by_cases e:i=q
  ·subst e;rw [Lc hql] at hc;cases hc;rw [hcons] at h;have h':Zc (EP P Gl) (fun tm H=>Zc (EP P Gl) k (cs.drop (i+1)) tm H) [cs[i]] tm H:=h;refine Q5h (fun tm H h=>?_) _ h';rw [Qp6];exact Q5s ha hb hl ht n (i+1) tm H (by omega) (by omega) h
  have hbef:=ht i c (by omega) hc
  have hbit:c.bef.testBit q=true->False:=fun hx=>by
   have:=Qh7 hB q hx;rw [Lw,Ag] at this;omega
  have hi:i=s+1∧q=s:=by
   by_cases g:i=s+1
   ·refine ⟨g,?_⟩;rw [Af g] at hbef;apply Ln;intro hne;exact hbit (by rw [hbef,Lw,Ag];omega)
   rw [Ae g] at hbef;exact absurd (by rw [hbef,Lw,Ag];omega) hbit
  obtain ⟨rfl,rfl⟩:=hi;rw [hb] at hc;cases hc;rw [Lc hql] at ha;have ha:=Am ha;have hl1:q+1<cs.length:=(La.1 hb).1;rw [hcons,ha,Cn hl1,(La.1 hb).2] at h;have h2:=Qj0 hl h;have h3:Zc (EP P Gl) (fun tm H=>Zc (EP P Gl) (fun tm H=>Zc (EP P Gl) k (cs.drop (q+1+1)) tm H) [a] tm H) [b] tm H:=h2;refine Q5h (fun tm H h=>?_) _ h3
  cases n with
  | zero=>omega
  | succ n=>
   refine Qcz cs 0 fun i c hc hL hB=>?_;rw [Lv] at hL ⊢;rw [Q5t,Lw,Bool.or_eq_false_iff,An,An] at hL
   have hiq:i=q:=by
    apply Ln;intro hne;have hbef:=ht i c (by omega) hc;rw [Ae (by omega)] at hbef;have:=Qh7 hB q (by rw [hbef,Lw,Ag];omega);rw [Q5t,Lw] at this;simp at this
   subst hiq;rw [Lc hql,ha] at hc;cases hc;refine Q5h (fun tm H h=>?_) _ h;rw [Qni];exact Q5s (by rw [Lc hql,ha]) hb hl ht n (i+2) tm H (by omega) (by omega) h
theorem Q5a {f:Nat} {args:List AV} {H:List AObj} {k k':AV->List AObj->List Nat->List Nat->Prop} (hk:∀ v H R A,k v H R A->k' v H R A) (h:Qv P Gl f args H k):Qv P Gl f args H k':=by
 rcases h with ⟨R,sets,r,h1,h2,h3⟩ | ⟨R,obs,r,A,h1,h2,h3⟩
 ·exact .inl ⟨R,sets,r,h1,h2,hk _ _ _ _ h3⟩
 exact .inr ⟨R,obs,r,A,h1,h2,hk _ _ _ _ h3⟩
theorem Q5l {K K':List AV->List AObj->Prop} (hk:∀ tm H,K tm H->K' tm H):∀ (cs:List COper) (tm:List AV) (H:List AObj) (j:Nat) (acc:List Fp),Zk (EP P Gl) (Qv P Gl) K cs tm H j acc->Zk (EP P Gl) (Qv P Gl) K' cs tm H j acc
 | [],tm,H,j,acc,h=>by
  simp only [Q7a,Yi] at h ⊢;split at h
  ·rename_i hb;rw [Af hb];exact hk _ _ h
  exact h.elim
 | c::cs,tm,H,j,acc,h=>by
  have run:∀ tm,Qet (EP P Gl) (Qv P Gl) tm H (fun v hp rd af=>put tm c.dst v fun tm=>Zk (EP P Gl) (Qv P Gl) K cs tm hp (j+1) (⟨j,rd,af,c.bef⟩::acc)) c.op ->
    Qet (EP P Gl) (Qv P Gl) tm H (fun v hp rd af=>put tm c.dst v fun tm=>Zk (EP P Gl) (Qv P Gl) K' cs tm hp (j+1) (⟨j,rd,af,c.bef⟩::acc)) c.op:=by
   intro tm h
   have kk:∀ v H' R A,(put tm c.dst v fun tm=>Zk (EP P Gl) (Qv P Gl) K cs tm H' (j+1) (⟨j,R,A,c.bef⟩::acc))->(put tm c.dst v fun tm=>Zk (EP P Gl) (Qv P Gl) K' cs tm H' (j+1) (⟨j,R,A,c.bef⟩::acc)):=fun v H' R A hv=>by
    rw [Y2] at hv ⊢;exact Q5l hk cs _ _ _ _ hv
   by_cases hc:c.op.isCall=false
   ·rw [Qa4 _ _ _ _ _ _ hc,Q3n _ _ _ _ _ hc] at h ⊢
    cases hs:Ql (EP P Gl).glob tm H H.length c.op with
    | none=>rw [hs] at h;exact h.elim
    | some ve=>
     obtain ⟨v,e⟩:=ve;rw [hs] at h;exact kk _ _ _ _ h
   revert h hc;generalize c.op=op;intro h hc
   cases op<;>try (simp [COp.isCall] at hc;done)
   case call f args=>
    simp only [Qet,Ys] at h ⊢;exact Q5a kk h
   case callv f args=>
    simp only [Qet,Ys,Qi,Vn,Zu] at h ⊢;split at h
    ·exact Q5a kk h
    ·exact Q5a kk h
    exact h.elim
  have skip:∀ tm,(put tm c.dst Zd fun tm=>Zk (EP P Gl) (Qv P Gl) K cs tm H (j+1) acc)->(put tm c.dst Zd fun tm=>Zk (EP P Gl) (Qv P Gl) K' cs tm H (j+1) acc):=fun tm hv=>by
   rw [Y2] at hv ⊢;exact Q5l hk cs _ _ _ _ hv
  simp only [Q56] at h ⊢
  cases hg:c.guard with
  | none=>rw [hg] at h;exact run tm h
  | some tw=>
   obtain ⟨t,want⟩:=tw;rw [hg] at h;simp only [Wl,Gt,Wh] at h ⊢;split at h
   ·rename_i b hv
    cases b<;>cases want<;>simp only [Ak,Al,Lu] at h ⊢ <;> first | exact run _ h | exact skip _ h
   ·exact skip _ h
   exact h.elim
theorem Qjj (p s:Nat) {cs:List COper} {c0:COper} {suf:List COper} {a b:COper} {tm:List AV} {H:List AObj} {k:List AV->List AObj->Prop} (hs:cs.drop p=c0::suf) (hps:Nat.ble p s=true) (ha:cs[s]? = some a) (hb:cs[s+1]? = some b) (hl:Qhj a b=true) (htail:Qmp s p (c0::suf)=true) (hlen:(cs.take p).length=p)
  (h:Zk (EP P Gl) (Qv P Gl) (fun tm H=>Zc (EP P Gl) k (c0::suf) tm H) (cs.take p) tm H 0 []):Q27 P Gl cs tm H k:=by
 have hps:=Lt hps
 have hcs:cs.take p++c0::suf=cs:=by rw [← hs,Ml]
 have hbef:∀ (i:Nat) c,p≤i->cs[i]? = some c->c.bef=if i=s+1 then 2 ^ s - 1 else 2 ^ i - 1:=fun i c hi hc=>by
  have hd:(c0::suf)[i - p]? = some c:=by rw [← hs,Ly,show p+(i - p)=i by omega];exact hc
  have:=Qbn _ _ htail _ c hd
  rwa [show p+(i - p)=i by omega] at this
 have hn:p+(suf.length+1)=cs.length:=by
  have:=congrArg List.length hcs;rw [Mw,hlen] at this;simpa using this
 have hm:∀ c∈c0::suf,∀ b,b<(cs.take p).length->c.bef.testBit b=true:=fun c hc b hb=>by
  rw [hlen] at hb;obtain ⟨i,hi⟩:=List.getElem?_of_mem hc
  have hd:cs[p+i]? = some c:=by rw [← Ly,hs];exact hi
  rw [hbef (p+i) c (by omega) hd];split
  ·rw [Lw,Ag];omega
  rw [Lw,Ag];omega
 rw [← hcs];refine Qmz hm ?_;rw [hcs,hlen]
 have hmono:∀ (pre:List COper) tm H j acc,Zk (EP P Gl) (Qv P Gl) (fun tm H=>Zc (EP P Gl) k (c0::suf) tm H) pre tm H j acc->Zk (EP P Gl) (Qv P Gl) (fun tm H=>Q42 P Gl k cs (suf.length+1) (2 ^ p - 1) tm H) pre tm H j acc:=by
  intro pre tm H j acc h;exact Q5l (fun tm H h=>Q5s ha hb hl hbef (suf.length+1) p tm H hn (Lj _) (by rw [hs];exact h)) pre tm H j acc h
 exact hmono _ _ _ _ _ h
end
end
end Go.Av
