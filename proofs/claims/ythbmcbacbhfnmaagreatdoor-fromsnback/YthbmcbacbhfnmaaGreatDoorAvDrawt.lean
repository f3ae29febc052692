/- Part of FromsnBack: the law returns true; no condition. -/
import Derived.Test.YthbmcbacbhfnmaaGreatDoorAvDraws
set_option linter.all false
namespace Go.Av
noncomputable section
set_option maxHeartbeats 4000000
section
variable {P:Program} {Gl:Nat->Option (List PV)}
def Qi8:Nat->List COper->Bool
 | _,[]=>true
 | j,c::r=>Nat.beq c.bef (2 ^ j - 1)&&Qi8 (j+1) r
theorem Qf4:∀ (r:List COper) (j:Nat),Qi8 j r=true->∀ (i:Nat) c,r[i]? = some c->∀ b,b<j+i->c.bef.testBit b=true
 | [],_,_,i,c,h=>by simp_all
 | d::r,j,ht,i,c,h=>by
  simp only [Qi8,Le] at ht;obtain ⟨h1,h2⟩:=ht
  cases i with
  | zero=>
   simp_all
  | succ i=>
   intro b hb;exact Qf4 r (j+1) h2 i c (by simp_all) b (by omega)
theorem Qfy {pre suf:List COper} {o:Oper} (h:∀ e∈o.after,Region.binds .any e=true->e.on<pre.length):Q9e (pre++suf) o=Q9e pre o:=by
 unfold Q9e
 have:∀ (l:List Edge) (b:Nat),(∀ e∈l,Region.binds .any e=true->e.on<pre.length) ->
   l.foldl (fun b e=>if Region.binds .any e then (match (pre++suf)[e.on]? with | some d=>b ||| (d.bef ||| 1 <<< e.on) | none=>b) else b) b =
   l.foldl (fun b e=>if Region.binds .any e then (match pre[e.on]? with | some d=>b ||| (d.bef ||| 1 <<< e.on) | none=>b) else b) b:=by
  intro l
  induction l with
  | nil=>simp
  | cons e l ih=>
   grind
 exact this _ _ (fun e he=>h e (by simp_all))
def EdgeOk (ops:Array Oper) (cs:List COper):Prop:=∀ (i:Nat) o c,ops[i]? = some o->cs[i]? = some c->(∀ e∈o.after,Region.binds .any e=true->e.on<i)∧Q9e cs o=c.bef
def EdgeOk.closed {ops:Array Oper} {cs:List COper} (p:EdgeOk ops cs) {L:Nat->Prop} {j:Nat} {o:Oper} {c:COper} (hL:∀ (i:Nat) c b,i<j->cs[i]? = some c->L i->c.bef.testBit b=true->L b)
  (ho:ops[j]? = some o) (hc:cs[j]? = some c) (he:∀ e∈o.after,Region.binds .any e=true->L e.on) {b:Nat} (hb:c.bef.testBit b=true):L b:=by
 rw [← (p j o c ho hc).2] at hb
 rcases Qdq b o.after.toList 0 hb with h | ⟨e,h1,h2,d,h3,h4⟩
 ·simp_all
 have hlt:=(p j o c ho hc).1 e (by simp_all) h2
 grind
def EdgeOk.lt {ops:Array Oper} {cs:List COper} (p:EdgeOk ops cs) (hsz:ops.size=cs.length):∀ (j:Nat) (c:COper) (b:Nat),cs[j]? = some c->c.bef.testBit b=true->b<j:=by
 intro j
 induction j using Nat.strongRecOn with
 | _ j ih=>
  intro c b hc hb;have hjl:=(Ld.1 hc).1;have ho:ops[j]? = some ops[j]:=Me (by omega);rw [← (p j _ c ho hc).2] at hb
  rcases Qdq b (ops[j]).after.toList 0 hb with h | ⟨e,h1,h2,d,h3,h4⟩
  ·simp_all
  have hlt:=(p j _ c ho hc).1 e (by simp_all) h2
  grind
def Qep {ops:Array Oper} {all:List COper} (hsz:ops.size=all.length) (hed:EdgeOk ops all) {n0:Nat} (hbef:∀ (i:Nat) c,n0≤i->all[i]? = some c->∀ b,b<i->c.bef.testBit b=true)
  (hop:∀ (i:Nat) o c,ops[i]? = some o->all[i]? = some c->o.dst=c.dst∧Qa4 P o.op c.op=true∧Wd ops o.guard c.guard=true)
  {θ0:Th} {H0:List AObj} {w0:World} {k:List AV->List AObj->Prop} (hG0:GlobOK Gl θ0 H0 w0) {Q:Exit->Act->World->Prop}
  (hQ:∀ tm' H' θ' a' w',k tm' H'->TmOk θ' (Qu θ' H') w' tm' a'->Hp θ' H' w'->EvoS θ0 H0 w0 θ' H' w'->Q .normal a' w') :
  ∀ (suf:List COper) (m:Nat),n0≤m->all.drop m=suf->∀ tm H,Q0e (EP P Gl) k suf tm H->∀ θ a w,EvoS θ0 H0 w0 θ H w->TmOk θ (Qu θ H) w tm a->Hp θ H w ->
  ∀ (fuel:Nat) (listed:Array Bool),listed.size=ops.size->(∀ i,i<ops.size->(listed.getD i false=true↔i<m))->suf.length≤fuel->wpAny P .any ops Q fuel listed a w
 | [],m,hm,hdr,tm,H,h,θ,a,w,hE,hT,hH,fuel,listed,hls,hli,hf=>by
  have hml:all.length≤m:=by simp_all
  have hr:Region.ready .any ops listed = []:=by
   cases hrr:Region.ready .any ops listed with
   | nil=>rfl
   | cons j rest=>
    have hj:j∈Region.ready .any ops listed:=by simp_all
    grind [mem_ready]
  exact dp
 | c::suf,m,hm,hdr,tm,H,h,θ,a,w,hE,hT,hH,fuel,listed,hls,hli,hf=>by
  have hml:m<all.length:=by grind
  have hcm:all[m]? = some c:=gW
  have hdr2:all.drop (m+1)=suf:=by grind [List.tail_drop]
  have hG:=hG0.evo hE.toEvo
  match fuel,hf with
  | fuel+1,hf=>
  have hom:ops[m]? = some ops[m]:=Me (by omega)
  have clo:∀ (i:Nat) c b,all[i]? = some c->i<m->c.bef.testBit b=true->b<m:=fun i c b hc hi hb=>by have:=hed.lt hsz i c b hc hb;omega
  have only:∀ j∈Region.ready .any ops listed,j=m:=by
   intro j hj;rw [mem_ready] at hj;obtain ⟨h0,o,ho,he⟩:=hj;have hlt:j<ops.size:=(Mh.1 ho).1
   have hnm:¬ j<m:=fun hlt2=>by
    grind
   apply Lo;intro hne
   have hjm:m<j:=by omega
   have hcj:all[j]? = some all[j]:=La (by omega);have hb:=hbef j _ (by omega) hcj m hjm
   exact cd
  have mready:m∈Region.ready .any ops listed:=cC
  obtain ⟨hd,hop1,hg⟩:=hop m _ c hom hcm
  have lnext:∀ i,i<ops.size->((listed.setIfInBounds m true).getD i false=true↔i<m+1):=cT
  have run:∀ tm1,TmOk θ (Qu θ H) w tm1 a->Q11 (EP P Gl) tm1 H (fun v hp=>put tm1 c.dst v fun tm=>Q0e (EP P Gl) k suf tm hp) c.op->Region.wanted ops[m] (yielded ops a.tmps)=true ->
    wpOp P ops Q m (wpAny P .any ops Q fuel (listed.setIfInBounds m true)) a w:=by
   intro tm1 hT1 hev hw;unfold wpOp;rw [hom];simp only [hw,Ak];refine .inl (Q76 hT1 hH hG hop1 hev (fun v cv H' θ' w' hkv hrv hH' hE'=>?_));rw [Q0y] at hkv;exact Qep hsz hed hbef hop hG0 hQ suf (m+1) (by omega) hdr2 _ H' hkv θ' _ w' (hE.trans hE') di hH' fuel _ (by simp_all) lnext (by simp_all)
  have skip:∀ tm1,TmOk θ (Qu θ H) w tm1 a->(put tm1 c.dst Uw fun tm=>Q0e (EP P Gl) k suf tm H)->Region.wanted ops[m] (yielded ops a.tmps)=false ->
    wpOp P ops Q m (wpAny P .any ops Q fuel (listed.setIfInBounds m true)) a w:=by
   intro tm1 hT1 hev hw;unfold wpOp;rw [hom];simp only [hw,Mg,Al];rw [Q0y] at hev;exact Qep hsz hed hbef hop hG0 hQ suf (m+1) (by omega) hdr2 _ H hev θ _ w hE d8 hH fuel _ (by simp_all) lnext (by simp_all)
  refine ⟨fun hr=>(by simp_all),fun j hj=>?_⟩;obtain rfl:=only j hj;simp only [Q4j] at h;generalize hoo:ops[j]=o at hd hop1 hg run skip hom
  cases hgc:c.guard with
  | none=>
   grind [Wd,Region.wanted]
  | some tb=>
   exact aE
end
end
end Go.Av
namespace Go.Av
noncomputable section
set_option maxHeartbeats 4000000
section
variable {P:Program} {Gl:Nat->Option (List PV)}
theorem Qhx {pre:List COper} {c0:COper} {suf:List COper} {tm:List AV} {H:List AObj} {k:List AV->List AObj->Prop} (htail:Qi8 pre.length (c0::suf)=true)
  (h:Q0f (EP P Gl) (Wz P Gl) (fun tm H=>Q0e (EP P Gl) k (c0::suf) tm H) pre tm H 0 []):Qa1 P Gl (pre++c0::suf) tm H k:=by
 intro id ops hk hm hst θ a w hT hH hG;obtain ⟨_,tms,Hs,vs,es,Rs,As,rfl,rfl,hkk,hpath,hap⟩:=Qbi pre tm H 0 [] h;obtain ⟨s1,s2⟩:=Q51 ops.toList _ hk;simp only [Qv3,Le] at hst
 have tol:∀ (i:Nat) o,ops[i]? = some o->ops.toList[i]? = some o:=fun i o h=>by simp_all
 have hsz:ops.size=(pre++c0::suf).length:=by omega
 have hszn:ops.size=pre.length+(suf.length+1):=by simp_all
 have inpre:∀ {i:Nat} {c:COper},pre[i]? = some c->i<pre.length∧(pre++c0::suf)[i]? = some c:=fun {i c} hc=>by
  grind
 have hed:EdgeOk ops (pre++c0::suf):=fun i o c ho hc=>by
  grind [Q91]
 have hop:∀ (i:Nat) o c,ops[i]? = some o->(pre++c0::suf)[i]? = some c->o.dst=c.dst∧Qa4 P o.op c.op=true∧Wd ops o.guard c.guard=true:=fun i o c ho hc=>s2 i o c (tol i o ho) hc
 have hbef:∀ (i:Nat) c,pre.length≤i->(pre++c0::suf)[i]? = some c->∀ b,b<i->c.bef.testBit b=true:=fun i c hi hc b hb=>by
  grind [Qf4]
 have p:Plan P Gl ops pre tms Hs vs es Rs As:=aZ
 refine wp_region_any hm ?_
 let w1:World := { w with drawn:=w.drawn+1 }
 have e1:Evo θ (Hs 0) w θ (pad (Hs pre.length).length (Hs 0)) w1:=Qiw θ (Hs 0) w _ _;have h01:(Hs 0).length≤(Hs pre.length).length:=p.len' (Lk _) (Lh _)
 have main:∀ (fuel:Nat) (listed:Array Bool) (θ':Th) (tm':List AV) (H':List AObj) (a':Act) (w':World),listed.size=ops.size->listed.toList.count false≤fuel ->
   (∀ i,pre.length≤i->i<ops.size->listed.getD i false=false) ->
   InvD pre tms Hs es θ w1 (fun i=>listed.getD i false=true) θ' tm' H' a' w' ->
   wpAny P .any ops (Z6y θ (Hs 0) w (fun ce tm' H'=>ce = .normal∧k tm' H')) fuel listed a' w':=by
  intro fuel
  induction fuel with
  | zero=>
   exact bq
  | succ fuel ih=>
   intro listed θ' tm' H' a' w' hls hcnt hun inv
   by_cases hall:∀ i,i<pre.length->listed.getD i false=true
   ·-- all of the first part is done
    have hallI:∀ i,i<pre.length->(i<pre.length↔listed.getD i false=true):=fun i hi=>⟨fun _=>hall i hi,fun _=>hi⟩
    have e2:tm'=tms pre.length:=eE
    have e3:H'=Hs pre.length:=eV
    subst e2;subst e3
    have hcnt2:(c0::suf).length≤fuel+1:=aX
    refine Qep hsz hed hbef hop (k:=k) hG (fun tm3 H3 θ3 a3 w3 hk3 t3 h3 ev3=>⟨.normal,_,_,θ3,trivial,⟨rfl,hk3⟩,t3,h3,ev3⟩) (c0::suf) pre.length (Lh _) (by simp) _ _ hkk θ' a' w'
     ⟨e1.trans inv.evo,h01,inv.old⟩ inv.hT inv.hH (fuel+1) listed hls (fun i hi=>⟨fun hl=>?_,fun hl=>hall i hl⟩) hcnt2
    grind
   refine ⟨fun hr=>?_,fun j hj=>?_⟩
   ·exact aS
   rw [mem_ready] at hj;obtain ⟨h0,o,ho,he⟩:=hj
   have hlt:j<listed.size:=by grind
   have hget:listed[j]=false:=fk
   have hjp:j<pre.length:=by
    apply Lo;intro hn;have hcj:(pre++c0::suf)[j]? = some (pre++c0::suf)[j]:=La (by omega);apply hall;intro i hi;have hb:=hbef j _ (by omega) hcj i (by omega)
    exact bV
   exact bI
 exact aw
def Q2c (p:Nat) {cs:List COper} {c0:COper} {suf:List COper} {tm:List AV} {H:List AObj} {k:List AV->List AObj->Prop} (hs:cs.drop p=c0::suf) (htail:Qi8 (cs.take p).length (c0::suf)=true)
  (h:Q0f (EP P Gl) (Wz P Gl) (fun tm H=>Q0e (EP P Gl) k (c0::suf) tm H) (cs.take p) tm H 0 []):Qa1 P Gl cs tm H k:=by
 grind [Qhx,List.take_append_drop]
end
end
end Go.Av
namespace Go.Av
noncomputable section
set_option maxHeartbeats 4000000
section
variable {P:Program} {Gl:Nat->Option (List PV)}
def Qh3 {ops:Array Oper} {all:List COper} (hsz:ops.size=all.length) (hed:EdgeOk ops all) {n0 q:Nat} (hq:q≤all.length) (hbef:∀ (i:Nat) c,n0≤i->all[i]? = some c->∀ b,b<i->b<q->c.bef.testBit b=true)
  (hop:∀ (i:Nat) o c,ops[i]? = some o->all[i]? = some c->o.dst=c.dst∧Qa4 P o.op c.op=true∧Wd ops o.guard c.guard=true)
  {θ0:Th} {H0:List AObj} {w0:World} {k:List AV->List AObj->Prop} (hG0:GlobOK Gl θ0 H0 w0) {Q:Exit->Act->World->Prop}
  (hB:∀ tm' H' θ' a' w' fuel (listed:Array Bool),k tm' H'->EvoS θ0 H0 w0 θ' H' w'->TmOk θ' (Qu θ' H') w' tm' a'->Hp θ' H' w'->listed.size=ops.size->(∀ i,i<ops.size->(listed.getD i false=true↔i<q))->all.length - q≤fuel->wpAny P .any ops Q fuel listed a' w') :
  ∀ (suf:List COper) (m:Nat),n0≤m->m+suf.length=q->(∃ rest,all.drop m=suf++rest)->∀ tm H,Q0e (EP P Gl) k suf tm H->∀ θ a w,EvoS θ0 H0 w0 θ H w->TmOk θ (Qu θ H) w tm a->Hp θ H w ->
  ∀ (fuel:Nat) (listed:Array Bool),listed.size=ops.size->(∀ i,i<ops.size->(listed.getD i false=true↔i<m))->all.length - m≤fuel->wpAny P .any ops Q fuel listed a w
 | [],m,hm,hmq,hdr,tm,H,h,θ,a,w,hE,hT,hH,fuel,listed,hls,hli,hf=>by
  have:m=q:=by omega
  subst this;exact hB tm H θ a w fuel listed h hE hT hH hls hli hf
 | c::suf,m,hm,hmq,⟨rest,hdr⟩,tm,H,h,θ,a,w,hE,hT,hH,fuel,listed,hls,hli,hf=>by
  have hml:m<all.length:=by grind
  have hmq2:m<q:=by grind
  have hcm:all[m]? = some c:=gW
  have hdr2:all.drop (m+1)=suf++rest:=by grind [List.tail_drop]
  have hG:=hG0.evo hE.toEvo;obtain ⟨fuel,rfl⟩:∃ f,fuel=f+1:=⟨fuel - 1,by omega⟩;have hom:ops[m]? = some ops[m]:=Me (by omega)
  have clo:∀ (i:Nat) c b,all[i]? = some c->i<m->c.bef.testBit b=true->b<m:=fun i c b hc hi hb=>by have:=hed.lt hsz i c b hc hb;omega
  have only:∀ j∈Region.ready .any ops listed,j=m:=by
   intro j hj;rw [mem_ready] at hj;obtain ⟨h0,o,ho,he⟩:=hj;have hlt:j<ops.size:=(Mh.1 ho).1
   have hnm:¬ j<m:=fun hlt2=>by
    grind
   apply Lo;intro hne
   have hjm:m<j:=by omega
   have hcj:all[j]? = some all[j]:=La (by omega);have hb:=hbef j _ (by omega) hcj m hjm hmq2
   exact cd
  have mready:m∈Region.ready .any ops listed:=cC
  obtain ⟨hd,hop1,hg⟩:=hop m _ c hom hcm
  have lnext:∀ i,i<ops.size->((listed.setIfInBounds m true).getD i false=true↔i<m+1):=cT
  have run:∀ tm1,TmOk θ (Qu θ H) w tm1 a->Q11 (EP P Gl) tm1 H (fun v hp=>put tm1 c.dst v fun tm=>Q0e (EP P Gl) k suf tm hp) c.op->Region.wanted ops[m] (yielded ops a.tmps)=true ->
    wpOp P ops Q m (wpAny P .any ops Q fuel (listed.setIfInBounds m true)) a w:=by
   intro tm1 hT1 hev hw;unfold wpOp;rw [hom];simp only [hw,Ak];refine .inl (Q76 hT1 hH hG hop1 hev (fun v cv H' θ' w' hkv hrv hH' hE'=>?_));rw [Q0y] at hkv;exact Qh3 hsz hed hq hbef hop hG0 hB suf (m+1) (by omega) (by grind) ⟨rest,hdr2⟩ _ H' hkv θ' _ w' (hE.trans hE') di hH' fuel _ (by grind) lnext (by omega)
  have skip:∀ tm1,TmOk θ (Qu θ H) w tm1 a->(put tm1 c.dst Uw fun tm=>Q0e (EP P Gl) k suf tm H)->Region.wanted ops[m] (yielded ops a.tmps)=false ->
    wpOp P ops Q m (wpAny P .any ops Q fuel (listed.setIfInBounds m true)) a w:=by
   intro tm1 hT1 hev hw;unfold wpOp;rw [hom];simp only [hw,Mg,Al];rw [Q0y] at hev;exact Qh3 hsz hed hq hbef hop hG0 hB suf (m+1) (by omega) (by grind) ⟨rest,hdr2⟩ _ H hev θ _ w hE d8 hH fuel _ (by grind) lnext (by omega)
  refine ⟨fun hr=>(by grind),fun j hj=>?_⟩;obtain rfl:=only j hj;simp only [Q4j] at h;generalize hoo:ops[j]=o at hd hop1 hg run skip hom
  cases hgc:c.guard with
  | none=>
   grind [Wd,Region.wanted]
  | some tb=>
   exact aE
def Q8r (c:COper):Bool:=c.guard.isNone&&(match c.op with
 | .move (.t _)=>true
 | .move (.c _)=>true
 | .extract (.t _) _=>true
 | _=>false)
def Qc7 (tm:List AV):COp->Option AV
 | .move x=>some (Q9 tm x)
 | .extract x i=>match Q9 tm x with
  | .tuple vs=>vs[i]?
  | .p (.tuple vs)=>(vs[i]?).map .p
  | _=>none
 | _=>none
def Qt8 {c:COper} (hc:Q8r c=true) (tm:List AV) (H:List AObj) (kk:AV->List AObj->Prop):Q11 (EP P Gl) tm H kk c.op↔∃ v,Qc7 tm c.op=some v∧kk v H:=by
 unfold Q8r at hc;simp only [Le] at hc;obtain ⟨_,hc⟩:=hc;split at hc
 ·simp_all [Q11,Qmc,Zg,Qc7]
 ·simp_all [Q11,Qmc,Zg,Qc7]
 ·rename_i i n h;rw [h];show Qc0 (EP P Gl) tm H kk _ _↔_;unfold Qc0;rw [Zg];simp only [Qc7]
  cases Q9 tm (.t i) with
  | tuple vs=>
   simp only []
   cases hv:vs[n]? with
   | none=>exact dD
   | some v=>simp
  | p x=>
   cases x with
   | tuple vs=>
    simp only []
    cases hv:vs[n]? with
    | none=>simp only [Option.map_none,reduceCtorEq,false_and,exists_false,iff_false];exact fun h=>h
    | some v=>simp
   | _=>exact dD
  | _=>exact dD
 simp_all
def Quy {c:COper} (hc:Q8r c=true) {tm tm':List AV} (h:∀ t∈c.slots,tm[t]? = tm'[t]?):Qc7 tm c.op=Qc7 tm' c.op:=by
 grind [Q8r,COper.slots,COp.slots,Xo,Qc7,Q9]
def Qk6 {k:List AV->List AObj->Prop} {H:List AObj}:∀ (suf:List COper) (tm:List AV),suf.all Q8r=true->Q0e (EP P Gl) k suf tm H ->
  ∃ (tms:Nat->List AV) (vs:Nat->AV),tms 0=tm∧k (tms suf.length) H∧∀ (i:Nat) c,suf[i]? = some c->Qc7 (tms i) c.op=some (vs i)∧tms (i+1)=Qkq (tms i) c.dst (vs i)
 | [],tm,_,h=>⟨fun _=>tm,fun _ => .any,rfl,h,fun i c h=>by simp_all⟩
 | c::suf,tm,hl,h=>by
  simp only [List.all_cons,Le] at hl
  have hg:c.guard=none:=by simp_all [Q8r]
  rw [Q4j,hg] at h;obtain ⟨v,h1,h2⟩:=(Qt8 hl.1 tm H _).1 h;rw [Q0y] at h2;obtain ⟨tms,vs,q1,q2,q3⟩:=Qk6 suf (Qkq tm c.dst v) hl.2 h2;refine ⟨Qp2 tm tms,Qp2 v vs,rfl,q2,fun i d hd=>?_⟩
  cases i with
  | zero=>simp at hd;subst hd;exact ⟨h1,q1⟩
  | succ i=>exact q3 i d (by simp_all)
def Qqs {ops:Array Oper} {all:List COper} (hsz:ops.size=all.length) (hed:EdgeOk ops all) {q:Nat} (hq:q≤all.length) (hlight:(all.drop q).all Q8r=true)
  (hop:∀ (i:Nat) o c,ops[i]? = some o->all[i]? = some c->o.dst=c.dst∧Qa4 P o.op c.op=true∧Wd ops o.guard c.guard=true)
  (hslot:∀ (i:Nat) c t,all[i]? = some c->c.dst=some t->∀ (j:Nat) d,all[j]? = some d->i≠j->d.dst≠some t∧(t∈d.slots->d.bef.testBit i=true∨c.bef.testBit j=true))
  {θ0:Th} {H0:List AObj} {w0:World} {k:List AV->List AObj->Prop} (hG0:GlobOK Gl θ0 H0 w0) {Q:Exit->Act->World->Prop}
  (hQ:∀ tm' H' θ' a' w',k tm' H'->TmOk θ' (Qu θ' H') w' tm' a'->Hp θ' H' w'->EvoS θ0 H0 w0 θ' H' w'->Q .normal a' w')
  {tm0:List AV} {H:List AObj} (hev:Q0e (EP P Gl) k (all.drop q) tm0 H) {θ:Th} {a:Act} {w:World} (hE:EvoS θ0 H0 w0 θ H w) (hT:TmOk θ (Qu θ H) w tm0 a) (hH:Hp θ H w)
  {fuel:Nat} {listed:Array Bool} (hls:listed.size=ops.size) (hli:∀ i,i<ops.size->(listed.getD i false=true↔i<q)) (hf:all.length - q≤fuel):wpAny P .any ops Q fuel listed a w:=by
 obtain ⟨tms,vs,q1,q2,q3⟩:=Qk6 (P:=P) (Gl:=Gl) (all.drop q) tm0 hlight hev;have q3:∀ (i:Nat) c,q≤i->all[i]? = some c->Qc7 (tms (i - q)) c.op=some (vs (i - q))∧tms (i - q+1)=Qkq (tms (i - q)) c.dst (vs (i - q)):=fun i c hi hc=>q3 (i - q) c (by simp_all)
 have hlen:∀ j,j≤all.length - q->(tms j).length=tm0.length:=by
  intro j
  induction j with
  | zero=>simp_all
  | succ j ih=>
   intro hj
   have hlt:q+j<all.length:=by omega
   have:=(q3 (q+j) _ (by omega) (La hlt)).2
   grind [Qgf]
 have hlb:∀ (i:Nat) c,q≤i->all[i]? = some c->Q8r c=true:=fun i c hi hc=>Ln.1 hlight c (Mk (i:=i - q) (by simp_all))
 -- a slot stays as it is from its writer on
 have stay:∀ (t j j':Nat),j≤j'->j'≤all.length - q->(∀ (i:Nat) c,q+j≤i->i<q+j'->all[i]? = some c->c.dst≠some t)->(tms j')[t]? = (tms j)[t]? := by
  intro t j j' h1
  induction j' with
  | zero=>simp_all
  | succ j' ih=>
   intro h2 h3
   by_cases hjj:j=j'+1
   ·grind
   have hlt:q+j'<all.length:=by omega
   have hc:=La hlt;have e:=(q3 (q+j') _ (by omega) hc).2;rw [show q+j' - q=j' by omega] at e;have hne:=h3 (q+j') _ (by omega) (by omega) hc;rw [e,← ih (by omega) (by omega) (fun i c a b hc=>h3 i c a (by omega) hc)];unfold Qkq
   grind
 have main:∀ (n:Nat) (fuel:Nat) (listed:Array Bool) (tm':List AV) (θ':Th) (a':Act) (w':World),listed.toList.count false=n->n≤fuel->listed.size=ops.size->(∀ i,i<q->listed.getD i false=true) ->
   (∀ (i:Nat) c b,all[i]? = some c->listed.getD i false=true->c.bef.testBit b=true->listed.getD b false=true) ->
   (∀ (t j:Nat),j≤all.length - q->(∀ (i:Nat) c,q≤i->all[i]? = some c->c.dst=some t->(i<q+j↔listed.getD i false=true))->tm'[t]? = (tms j)[t]?) ->
   tm'.length=tm0.length->EvoS θ0 H0 w0 θ' H w'->TmOk θ' (Qu θ' H) w' tm' a'->Hp θ' H w'->wpAny P .any ops Q fuel listed a' w':=by
  intro n
  induction n with
  | zero=>
   intro fuel listed tm' θ' a' w' hcnt hfu hls hlq hclo hinv htl' hE' hT' hH'
   have hall:∀ i,i<ops.size->listed.getD i false=true:=by
    intro i hi
    have hlt:i<listed.size:=by omega
    have hno:=List.count_eq_zero.1 hcnt
    cases hb:listed[i] with
    | true=>simp_all
    | false=>grind
   have hr:Region.ready .any ops listed = []:=by simp_all [Region.ready]
   have e:tm'=tms (all.length - q):=by
    apply Lw;intro t;refine hinv t _ (Lh _) (fun i c hi hc _=>⟨fun _=>hall i (by omega),fun _=>by grind⟩)
   subst e
   have hk:k (tms (all.length - q)) H:=by grind
   have hqq:=hQ _ H θ' a' w' hk hT' hH' hE'
   cases fuel with
   | zero=>exact ⟨hr,hqq⟩
   | succ f=>exact ⟨fun _=>hqq,fun j hj=>by grind⟩
  | succ n ih=>
   intro fuel listed tm' θ' a' w' hcnt hfu hls hlq hclo hinv htl' hE' hT' hH';obtain ⟨fuel,rfl⟩:∃ f,fuel=f+1:=⟨fuel - 1,by omega⟩;refine ⟨fun hr=>?_,fun j hj=>?_⟩
   ·exfalso
    have hall:∀ j,j<ops.size->listed.getD j false=true:=by
     intro j
     induction j using Nat.strongRecOn with
     | _ j ihj=>
      intro hjs;apply Lo;intro hn;have ho:=Me hjs;have hc:=La (l:=all) (i:=j) (by omega)
      have:j∈Region.ready .any ops listed:=by
       rw [mem_ready];refine ⟨?_,_,ho,fun e he hb=>?_⟩
       ·grind
       have hlt:=(hed j _ _ ho hc).1 e he hb
       grind
      simp_all
    have hmem:false∈listed.toList:=List.count_pos_iff.1 (by omega);obtain ⟨i,hi⟩:=Mu.1 hmem
    have hlt:i<listed.size:=by grind
    simp_all
   rw [mem_ready] at hj;obtain ⟨h0,o,ho,he⟩:=hj;have hjs:j<ops.size:=(Mh.1 ho).1
   have hlt:j<listed.size:=by omega
   have hget:listed[j]=false:=by simp_all
   have hnl:¬ listed.getD j false=true:=by grind
   have hjq:q≤j:=Lo fun hn=>hnl (hlq j (by omega));have hc:=La (l:=all) (i:=j) (by omega);generalize all[j]'(by omega)=c at hc;have hb:∀ b,c.bef.testBit b=true->listed.getD b false=true:=fun b hb=>hed.closed (L:=fun i=>listed.getD i false=true) (j:=j) (fun i c b _ hc hL hb=>hclo i c b hc hL hb) ho hc he hb;obtain ⟨hd,hop1,hg⟩:=hop j o c ho hc;have hl:=hlb j c hjq hc;obtain ⟨e1,e2⟩:=q3 j c hjq hc
   have hv:Qc7 tm' c.op=some (vs (j - q)):=by
    rw [← e1];refine Quy hl (fun t ht=>?_);refine hinv t (j - q) (by omega) (fun i ci hi hci hdi=>?_);rw [show q+(j - q)=j by omega]
    by_cases hij:i=j
    ·grind
    rcases (hslot i ci t hci hdi j c hc hij).2 ht with h1 | h1
    ·have:=hed.lt hsz j c i hc h1
     simp_all
    have:=hed.lt hsz i ci j hci h1
    grind
   have hgn:c.guard=none:=by simp_all [Q8r]
   have hgo:o.guard=none:=by grind [Wd]
   have hG:=hG0.evo hE'.toEvo;have hev1:Q11 (EP P Gl) tm' H (fun v hp=>v=vs (j - q)∧hp=H) c.op:=(Qt8 hl tm' H _).2 ⟨_,hv,rfl,rfl⟩;unfold wpOp;rw [ho];simp only [show Region.wanted o (yielded ops a'.tmps)=true by simp [Region.wanted,hgo],Ak];refine .inl (Q76 hT' hH' hG hop1 hev1 (fun v cv H2 θ2 w2 hkv hrv hH2 hE2=>?_));obtain ⟨rfl,rfl⟩:=hkv
   have hT2:TmOk θ2 (Qu θ2 H2) w2 (Qkq tm' c.dst (vs (j - q))) (a'.put o.dst cv):=by
    rw [hd];have:=(hT'.mono hE2.toEvo).put c.dst hrv;unfold Qkq;exact this
   refine ih fuel _ _ θ2 _ w2 ?_ (by omega) (by simp [hls]) (fun i hi=>?_) (fun i ci b hci hL hbb=>?_) (fun t jj hjj hcond=>?_) (by simp_all [Qgf]) (hE'.trans hE2) hT2 hH2
   ·simp_all [List.count_set]
   ·rw [getD_set_ne false (by omega:j≠i)];exact hlq i hi
   ·by_cases hbj:b=j
    ·simp_all
    rw [getD_set_ne false (fun e=>hbj e.symm)]
    by_cases hij:i=j
    ·simp_all
    rw [getD_set_ne false (fun e=>hij e.symm)] at hL
    grind
   by_cases hdt:c.dst=some t
   ·have h1:=hcond j c hjq hc hdt
    have hset:(listed.setIfInBounds j true).getD j false=true:=by simp_all
    have hjlt:=h1.2 hset;have e5:=stay t (j - q+1) jj (by omega) hjj (fun i ci a b hci=>(hslot j c t hc hdt i ci hci (by omega)).1)
    grind [Qkq]
   have e5:(Qkq tm' c.dst (vs (j - q)))[t]? = tm'[t]? := by
    unfold Qkq
    cases hdc:c.dst with
    | none=>rfl
    | some d=>simp_all
   rw [e5];refine hinv t jj hjj (fun i ci hi hci hdi=>?_);have hij:j≠i:=fun e=>hdt (by simp_all)
   simp_all
 refine main _ fuel listed tm0 θ a w rfl ?_ hls (fun i hi=>(hli i (by omega)).2 hi) (fun i c b hc hL hb=>?_) (fun t j hj hcond=>?_) rfl hE hT hH
 ·refine Ma ?_ hf
  have h1:(listed.toList.take q).count false=0:=by
   refine List.count_eq_zero.2 (fun hm=>?_);obtain ⟨i,hi⟩:=Mu.1 hm;rw [Nd] at hi;split at hi
   ·rename_i hiq;have h2:=(hli i (by omega)).2 hiq
    have hlt:i<listed.size:=by omega
    simp [hlt] at hi
    simp_all [Array.getD]
   cases hi
  grind [List.take_append_drop]
 ·have h1:=(hli i (by grind)).1 hL;have h2:=hed.lt hsz i c b hc hb
  grind
 grind
theorem Qpm {k:List AV->List AObj->Prop}:∀ (a b:List COper) (tm:List AV) (H:List AObj),Q0e (EP P Gl) k (a++b) tm H=Q0e (EP P Gl) (fun tm H=>Q0e (EP P Gl) k b tm H) a tm H
 | [],b,tm,H=>rfl
 | c::a,b,tm,H=>by
  rw [Ng,Q4j,Q4j]
  have e:(fun tm H=>Q0e (EP P Gl) k (a++b) tm H)=fun tm H=>Q0e (EP P Gl) (fun tm H=>Q0e (EP P Gl) k b tm H) a tm H:=by
   funext tm H;exact Qpm a b tm H
  simp_all
theorem Qyv (m:Nat) {pre:List COper} {c0:COper} {suf:List COper} {tm:List AV} {H:List AObj} {k:List AV->List AObj->Prop} (hm0:m≤suf.length) (htail:Qi8 pre.length ((c0::suf).take (m+1))=true) (hlight:((c0::suf).drop (m+1)).all Q8r=true) (hbits:((c0::suf).drop (m+1)).all (fun c=>Nat.beq (c.bef % 2 ^ (pre.length+(m+1))) (2 ^ (pre.length+(m+1)) - 1))=true)
  (h:Q0f (EP P Gl) (Wz P Gl) (fun tm H=>Q0e (EP P Gl) k (c0::suf) tm H) pre tm H 0 []):Qa1 P Gl (pre++c0::suf) tm H k:=by
 intro id ops hk hm hst θ a w hT hH hG;obtain ⟨_,tms,Hs,vs,es,Rs,As,rfl,rfl,hkk,hpath,hap⟩:=Qbi pre tm H 0 [] h;obtain ⟨s1,s2⟩:=Q51 ops.toList _ hk;simp only [Qv3,Le] at hst
 have tol:∀ (i:Nat) o,ops[i]? = some o->ops.toList[i]? = some o:=fun i o h=>by simp_all
 have hsz:ops.size=(pre++c0::suf).length:=by omega
 have hszn:ops.size=pre.length+(suf.length+1):=by simp_all
 have inpre:∀ {i:Nat} {c:COper},pre[i]? = some c->i<pre.length∧(pre++c0::suf)[i]? = some c:=fun {i c} hc=>by
  grind
 have hed:EdgeOk ops (pre++c0::suf):=fun i o c ho hc=>by
  grind [Q91]
 have hop:∀ (i:Nat) o c,ops[i]? = some o->(pre++c0::suf)[i]? = some c->o.dst=c.dst∧Qa4 P o.op c.op=true∧Wd ops o.guard c.guard=true:=fun i o c ho hc=>s2 i o c (tol i o ho) hc
 have hbq:∀ (i:Nat) c,pre.length+(m+1)≤i->(pre++c0::suf)[i]? = some c->∀ b,b<pre.length+(m+1)->c.bef.testBit b=true:=fun i c hi hc b hb=>by
  rw [Lq (by omega)] at hc;have hmem:c∈(c0::suf).drop (m+1):=Mk (i:=i - pre.length - (m+1)) (by rw [Mx,show m+1+(i - pre.length - (m+1))=i - pre.length by omega];omega);have:=Bi (Ln.1 hbits c hmem)
  have e:(c.bef % 2 ^ (pre.length+(m+1))).testBit b=true:=by grind
  grind
 have hbef:∀ (i:Nat) c,pre.length≤i->(pre++c0::suf)[i]? = some c->∀ b,b<i->b<pre.length+(m+1)->c.bef.testBit b=true:=fun i c hi hc b hb hb2=>by
  by_cases hiq:pre.length+(m+1)≤i
  ·grind
  rw [Lq hi] at hc;exact Qf4 _ _ htail (i - pre.length) c (by grind) b (by omega)
 have p:Plan P Gl ops pre tms Hs vs es Rs As:=aZ
 refine wp_region_any hm ?_
 let w1:World := { w with drawn:=w.drawn+1 }
 have e1:Evo θ (Hs 0) w θ (pad (Hs pre.length).length (Hs 0)) w1:=Qiw θ (Hs 0) w _ _;have h01:(Hs 0).length≤(Hs pre.length).length:=p.len' (Lk _) (Lh _)
 have main:∀ (fuel:Nat) (listed:Array Bool) (θ':Th) (tm':List AV) (H':List AObj) (a':Act) (w':World),listed.size=ops.size->listed.toList.count false≤fuel ->
   (∀ i,pre.length≤i->i<ops.size->listed.getD i false=false) ->
   InvD pre tms Hs es θ w1 (fun i=>listed.getD i false=true) θ' tm' H' a' w' ->
   wpAny P .any ops (Z6y θ (Hs 0) w (fun ce tm' H'=>ce = .normal∧k tm' H')) fuel listed a' w':=by
  intro fuel
  induction fuel with
  | zero=>
   exact bq
  | succ fuel ih=>
   intro listed θ' tm' H' a' w' hls hcnt hun inv
   by_cases hall:∀ i,i<pre.length->listed.getD i false=true
   ·-- all of the first part is done
    have hallI:∀ i,i<pre.length->(i<pre.length↔listed.getD i false=true):=fun i hi=>⟨fun _=>hall i hi,fun _=>hi⟩
    have e2:tm'=tms pre.length:=eE
    have e3:H'=Hs pre.length:=eV
    subst e2;subst e3
    have hcnt2:(pre++c0::suf).length - pre.length≤fuel+1:=aX
    have hdrop:(pre++c0::suf).drop (pre.length+(m+1))=(c0::suf).drop (m+1):=by simp
    have hkk2:Q0e (EP P Gl) (fun tm H=>Q0e (EP P Gl) k ((c0::suf).drop (m+1)) tm H) ((c0::suf).take (m+1)) (tms pre.length) (Hs pre.length):=by grind [Qpm,List.take_append_drop]
    refine Qh3 hsz hed (q:=pre.length+(m+1)) (by omega) hbef hop (k:=fun tm H=>Q0e (EP P Gl) k ((c0::suf).drop (m+1)) tm H) hG
     (fun tm4 H4 θ4 a4 w4 fuel4 listed4 hk4 ev4 t4 h4 ls4 li4 f4=>Qqs hsz hed (q:=pre.length+(m+1)) (by omega) (by grind) hop (fun i c t hc hd j d hj hne=>by
      have:=Q8o _ 0 hst.2 i c t hc hd j d hj (by omega)
      grind) (k:=k) hG (fun tm3 H3 θ3 a3 w3 hk3 t3 h3 ev3=>⟨.normal,_,_,θ3,trivial,⟨rfl,hk3⟩,t3,h3,ev3⟩) (by grind) ev4 t4 h4 ls4 li4 f4)
     ((c0::suf).take (m+1)) pre.length (Lh _) (by grind) ⟨(c0::suf).drop (m+1),by simp⟩ _ _ hkk2 θ' a' w'
     ⟨e1.trans inv.evo,h01,inv.old⟩ inv.hT inv.hH (fuel+1) listed hls (fun i hi=>⟨fun hl=>?_,fun hl=>hall i hl⟩) hcnt2
    grind
   refine ⟨fun hr=>?_,fun j hj=>?_⟩
   ·exact aS
   rw [mem_ready] at hj;obtain ⟨h0,o,ho,he⟩:=hj
   have hlt:j<listed.size:=by grind
   have hget:listed[j]=false:=fk
   have hjp:j<pre.length:=by
    apply Lo;intro hn;have hcj:(pre++c0::suf)[j]? = some (pre++c0::suf)[j]:=La (by omega);apply hall;intro i hi;have hb:=hbef j _ (by omega) hcj i (by omega) (by omega)
    exact bV
   exact bI
 exact aw
def Qms (p m:Nat) {cs:List COper} {c0:COper} {suf:List COper} {tm:List AV} {H:List AObj} {k:List AV->List AObj->Prop} (hs:cs.drop p=c0::suf) (hm0:Nat.ble m suf.length=true) (htail:Qi8 (cs.take p).length ((c0::suf).take (m+1))=true) (hlight:((c0::suf).drop (m+1)).all Q8r=true) (hbits:((c0::suf).drop (m+1)).all (fun c=>Nat.beq (c.bef % 2 ^ ((cs.take p).length+(m+1))) (2 ^ ((cs.take p).length+(m+1)) - 1))=true)
  (h:Q0f (EP P Gl) (Wz P Gl) (fun tm H=>Q0e (EP P Gl) k (c0::suf) tm H) (cs.take p) tm H 0 []):Qa1 P Gl cs tm H k:=by
 grind [Qyv,Nat.le_of_ble_eq_true,List.take_append_drop]
end
end
end Go.Av
