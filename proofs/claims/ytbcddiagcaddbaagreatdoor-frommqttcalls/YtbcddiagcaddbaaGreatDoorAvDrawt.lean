/- Part of FrommqttCalls: the law returns true; no condition. -/
import Derived.Test.YtbcddiagcaddbaaGreatDoorAvDraws
set_option linter.all false
namespace Go.Av
noncomputable section
section
variable {P:Program} {Gl:Nat->Option (List PV)}
def Qul:Nat->List COper->Bool
 | _,[]=>true
 | j,c::r=>Nat.beq c.bef (2 ^ j - 1)&&Qul (j+1) r
theorem Qku:∀ (r:List COper) (j:Nat),Qul j r=true->∀ (i:Nat) c,r[i]? = some c->∀ b,b<j+i->c.bef.testBit b=true
 | [],_,_,i,c,h=>by simp at h
 | d::r,j,ht,i,c,h=>by
  simp only [Qul,La] at ht;obtain ⟨h1,h2⟩:=ht
  cases i with
  | zero=>
   simp at h;subst h;intro b hb;rw [No h1,Nat.testBit_two_pow_sub_one];simpa using hb
  | succ i=>
   intro b hb;exact Qku r (j+1) h2 i c (by simpa using h) b (by omega)
theorem Qpi {pre suf:List COper} {o:Oper} (h:∀ e∈o.after,Region.binds .any e=true->e.on<pre.length):Qan (pre++suf) o=Qan pre o:=by
 unfold Qan
 have:∀ (l:List Edge) (b:Nat),(∀ e∈l,Region.binds .any e=true->e.on<pre.length) ->
   l.foldl (fun b e=>if Region.binds .any e then (match (pre++suf)[e.on]? with | some d=>b ||| (d.bef ||| 1 <<< e.on) | none=>b) else b) b =
   l.foldl (fun b e=>if Region.binds .any e then (match pre[e.on]? with | some d=>b ||| (d.bef ||| 1 <<< e.on) | none=>b) else b) b:=by
  intro l
  induction l with
  | nil=>intro b _;rfl
  | cons e l ih=>
   intro b hl;simp only [Cb]
   have e1:(if Region.binds .any e then (match (pre++suf)[e.on]? with | some d=>b ||| (d.bef ||| 1 <<< e.on) | none=>b) else b)=(if Region.binds .any e then (match pre[e.on]? with | some d=>b ||| (d.bef ||| 1 <<< e.on) | none=>b) else b):=by
    by_cases hb:Region.binds .any e=true
    ·rw [Af hb,Af hb,Lr (hl e (.head _) hb)]
    rw [Ae hb,Ae hb]
   rw [e1];exact ih _ (fun e' he'=>hl e' (.tail _ he'))
 exact this _ _ (fun e he=>h e (by simpa using he))
def EdgeOk (ops:Array Oper) (cs:List COper):Prop:=∀ (i:Nat) o c,ops[i]? = some o->cs[i]? = some c->(∀ e∈o.after,Region.binds .any e=true->e.on<i)∧Qan cs o=c.bef
theorem EdgeOk.closed {ops:Array Oper} {cs:List COper} (p:EdgeOk ops cs) {L:Nat->Prop} {j:Nat} {o:Oper} {c:COper} (hL:∀ (i:Nat) c b,i<j->cs[i]? = some c->L i->c.bef.testBit b=true->L b)
  (ho:ops[j]? = some o) (hc:cs[j]? = some c) (he:∀ e∈o.after,Region.binds .any e=true->L e.on) {b:Nat} (hb:c.bef.testBit b=true):L b:=by
 rw [← (p j o c ho hc).2] at hb
 rcases Qez b o.after.toList 0 hb with h | ⟨e,h1,h2,d,h3,h4⟩
 ·simp at h
 have hlt:=(p j o c ho hc).1 e (by simpa using h1) h2;have hle:=he e (by simpa using h1) h2
 rcases h4 with h4 | rfl
 ·exact hL e.on d b hlt h3 hle h4
 exact hle
theorem EdgeOk.lt {ops:Array Oper} {cs:List COper} (p:EdgeOk ops cs) (hsz:ops.size=cs.length):∀ (j:Nat) (c:COper) (b:Nat),cs[j]? = some c->c.bef.testBit b=true->b<j:=by
 intro j
 induction j using Nat.strongRecOn with
 | _ j ih=>
  intro c b hc hb;have hjl:=(Lb.1 hc).1;have ho:ops[j]? = some ops[j]:=Mv (by omega);rw [← (p j _ c ho hc).2] at hb
  rcases Qez b (ops[j]).after.toList 0 hb with h | ⟨e,h1,h2,d,h3,h4⟩
  ·simp at h
  have hlt:=(p j _ c ho hc).1 e (by simpa using h1) h2
  rcases h4 with h4 | rfl
  ·have:=ih e.on hlt d b h3 h4;omega
  exact hlt
theorem Qg7 {ops:Array Oper} {all:List COper} (hsz:ops.size=all.length) (hed:EdgeOk ops all) {n0:Nat} (hbef:∀ (i:Nat) c,n0≤i->all[i]? = some c->∀ b,b<i->c.bef.testBit b=true)
  (hop:∀ (i:Nat) o c,ops[i]? = some o->all[i]? = some c->o.dst=c.dst∧Qh3 P o.op c.op=true∧Q0q ops o.guard c.guard=true)
  {θ0:Th} {H0:List AObj} {w0:World} {k:List AV->List AObj->Prop} (hG0:GlobOK Gl θ0 H0 w0) {Q:Exit->Act->World->Prop}
  (hQ:∀ tm' H' θ' a' w',k tm' H'->TmOk θ' (Z8 θ' H') w' tm' a'->Hp θ' H' w'->EvoS θ0 H0 w0 θ' H' w'->Q .normal a' w') :
  ∀ (suf:List COper) (m:Nat),n0≤m->all.drop m=suf->∀ tm H,Q8g (EP P Gl) k suf tm H->∀ θ a w,EvoS θ0 H0 w0 θ H w->TmOk θ (Z8 θ H) w tm a->Hp θ H w ->
  ∀ (fuel:Nat) (listed:Array Bool),listed.size=ops.size->(∀ i,i<ops.size->(listed.getD i false=true↔i<m))->suf.length≤fuel->wpAny P .any ops Q fuel listed a w
 | [],m,hm,hdr,tm,H,h,θ,a,w,hE,hT,hH,fuel,listed,hls,hli,hf=>by
  have hml:all.length≤m:=by
   apply Mj;intro hn;have:=congrArg List.length hdr;simp at this;omega
  have hr:Region.ready .any ops listed = []:=by
   cases hrr:Region.ready .any ops listed with
   | nil=>rfl
   | cons j rest=>
    have hj:j∈Region.ready .any ops listed:=by rw [hrr];exact .head _
    rw [mem_ready] at hj;obtain ⟨h0,o,ho,_⟩:=hj;have hlt:j<ops.size:=(Mt.1 ho).1;have:=(hli j hlt).2 (by omega)
    have hlt2:j<listed.size:=by omega
    simp [Array.getD,hlt2] at h0 this;rw [h0] at this;cases this
  have hq:Q .normal a w:=hQ tm H θ a w h hT hH hE
  cases fuel with
  | zero=>exact ⟨hr,hq⟩
  | succ f=>exact ⟨fun _=>hq,fun j hj=>by rw [hr] at hj;cases hj⟩
 | c::suf,m,hm,hdr,tm,H,h,θ,a,w,hE,hT,hH,fuel,listed,hls,hli,hf=>by
  have hml:m<all.length:=by
   apply Mj;intro hn;rw [Lz (by omega)] at hdr;cases hdr
  have hcm:all[m]? = some c:=by
   have:=congrArg (fun l=>l[0]?) hdr;simpa using this
  have hdr2:all.drop (m+1)=suf:=by
   have:=congrArg List.tail hdr;simpa [List.tail_drop] using this
  have hG:=hG0.evo hE.toEvo
  match fuel,hf with
  | fuel+1,hf=>
  have hom:ops[m]? = some ops[m]:=Mv (by omega)
  have clo:∀ (i:Nat) c b,all[i]? = some c->i<m->c.bef.testBit b=true->b<m:=fun i c b hc hi hb=>by have:=hed.lt hsz i c b hc hb;omega
  have only:∀ j∈Region.ready .any ops listed,j=m:=by
   intro j hj;rw [mem_ready] at hj;obtain ⟨h0,o,ho,he⟩:=hj;have hlt:j<ops.size:=(Mt.1 ho).1
   have hnm:¬ j<m:=fun hlt2=>by
    have:=(hli j hlt).2 hlt2
    have hl2:j<listed.size:=by omega
    simp [Array.getD,hl2] at h0 this;rw [h0] at this;cases this
   apply Mj;intro hne
   have hjm:m<j:=by omega
   have hcj:all[j]? = some all[j]:=Ld (by omega);have hb:=hbef j _ (by omega) hcj m hjm
   have:=hed.closed (L:=fun i=>i<ops.size∧listed.getD i false=true) (j:=j) (fun i c b hi hc hL hb=>by
     have h1:=(hli i hL.1).1 hL.2;have h2:=clo i c b hc h1 hb
     exact ⟨by omega,(hli b (by omega)).2 h2⟩) ho hcj (fun e he1 he2=>by
     have h1:=he e he1 he2;have h2:=(hed j o _ ho hcj).1 e he1 he2
     exact ⟨by omega,h1⟩) hb
   have:=(hli m this.1).1 this.2;omega
  have mready:m∈Region.ready .any ops listed:=by
   rw [mem_ready]
   have hlm:m<listed.size:=by omega
   refine ⟨?_,_,hom,fun e he hb=>?_⟩
   ·have h1:¬ listed.getD m false=true:=fun hh=>by have:=(hli m (by omega)).1 hh;omega
    simp [Array.getD,hlm] at h1 ⊢;exact h1
   have:=(hed m _ c hom hcm).1 e he hb;exact (hli e.on (by omega)).2 this
  obtain ⟨hd,hop1,hg⟩:=hop m _ c hom hcm
  have lnext:∀ i,i<ops.size->((listed.setIfInBounds m true).getD i false=true↔i<m+1):=by
   intro i hi
   have hlm:m<listed.size:=by omega
   by_cases him:i=m
   ·subst him;simp [Array.getD,hlm]
   rw [getD_set_ne false (fun e=>him e.symm),hli i hi];omega
  have run:∀ tm1,TmOk θ (Z8 θ H) w tm1 a->Q2k (EP P Gl) tm1 H (fun v hp=>put tm1 c.dst v fun tm=>Q8g (EP P Gl) k suf tm hp) c.op->Region.wanted ops[m] (yielded ops a.tmps)=true ->
    wpOp P ops Q m (wpAny P .any ops Q fuel (listed.setIfInBounds m true)) a w:=by
   intro tm1 hT1 hev hw;unfold wpOp;rw [hom];simp only [hw,Ak];refine .inl (Qgx hT1 hH hG hop1 hev (fun v cv H' θ' w' hkv hrv hH' hE'=>?_));rw [Q3x] at hkv;exact Qg7 hsz hed hbef hop hG0 hQ suf (m+1) (by omega) hdr2 _ H' hkv θ' _ w' (hE.trans hE') (by rw [hd];exact (hT1.mono hE'.toEvo).put c.dst hrv) hH' fuel _ (by simp [hls]) lnext (by simp at hf;omega)
  have skip:∀ tm1,TmOk θ (Z8 θ H) w tm1 a->(put tm1 c.dst Jd fun tm=>Q8g (EP P Gl) k suf tm H)->Region.wanted ops[m] (yielded ops a.tmps)=false ->
    wpOp P ops Q m (wpAny P .any ops Q fuel (listed.setIfInBounds m true)) a w:=by
   intro tm1 hT1 hev hw;unfold wpOp;rw [hom];simp only [hw,Mg,Al];rw [Q3x] at hev;exact Qg7 hsz hed hbef hop hG0 hQ suf (m+1) (by omega) hdr2 _ H hev θ _ w hE (by rw [hd];exact hT1.put c.dst Q82) hH fuel _ (by simp [hls]) lnext (by simp at hf;omega)
  refine ⟨fun hr=>(by rw [hr] at mready;cases mready),fun j hj=>?_⟩;obtain rfl:=only j hj;simp only [Qgd] at h;generalize hoo:ops[j]=o at hd hop1 hg run skip hom
  cases hgc:c.guard with
  | none=>
   rw [hgc] at h hg
   cases hgo:o.guard with
   | some jb=>rw [hgo] at hg;simp [Q0q] at hg
   | none=>exact run tm hT h (by simp [Region.wanted,hgo])
  | some tb=>
   obtain ⟨t,want⟩:=tb;rw [hgc] at h hg
   cases hgo:o.guard with
   | none=>rw [hgo] at hg;simp [Q0q] at hg
   | some jb=>
    obtain ⟨j2,b⟩:=jb;rw [hgo] at hg;simp only [Q0q,La,Aj] at hg;obtain ⟨rfl,hj2⟩:=hg;simp only [Q84] at h;generalize hvt:tm.getD t .any=vt at h;split at h
    ·rename_i x;obtain ⟨cv,e1,e2,e3⟩:=Qcz hT hvt (by simp);have:=Qc6 e3;subst this;have hk1:=hT.known e2
     have hy':yielded ops a.tmps j2=some x:=by unfold yielded;rw [hj2];simp only [Ll,e1]
     simp only [Qe4,Q67] at h;cases x<;>cases b<;>simp only [Ak,Al,Mg] at h
     ·exact run _ hk1 (by simpa using h) (by simp [Region.wanted,hgo,hy'])
     ·exact skip _ hk1 (by simpa using h) (by simp [Region.wanted,hgo,hy'])
     ·exact skip _ hk1 (by simpa using h) (by simp [Region.wanted,hgo,hy'])
     exact run _ hk1 (by simpa using h) (by simp [Region.wanted,hgo,hy'])
    ·obtain ⟨cv,e1,e2,e3⟩:=Qcz hT hvt (by simp)
     have hcv:cv = .tuple #[]:=by
      cases e3 with
      | p _ _ hp=>
       cases hp with
       | tuple _ C hn hv=>
        have:C = #[]:=by apply Nn;simpa using hn
        rw [this]
     have hy':yielded ops a.tmps j2=none:=by unfold yielded;rw [hj2];simp only [Ll,e1,hcv]
     exact skip _ hT h (by simp [Region.wanted,hgo,hy'])
    exact h.elim
end
end
end Go.Av
namespace Go.Av
noncomputable section
section
variable {P:Program} {Gl:Nat->Option (List PV)}
theorem Qwr {pre:List COper} {c0:COper} {suf:List COper} {tm:List AV} {H:List AObj} {k:List AV->List AObj->Prop} (htail:Qul pre.length (c0::suf)=true)
  (h:Q42 (EP P Gl) (Q06 P Gl) (fun tm H=>Q8g (EP P Gl) k (c0::suf) tm H) pre tm H 0 []):Qjw P Gl (pre++c0::suf) tm H k:=by
 intro id ops hk hm hst θ a w hT hH hG;obtain ⟨_,tms,Hs,vs,es,Rs,As,rfl,rfl,hkk,hpath,hap⟩:=Qgw pre tm H 0 [] h;obtain ⟨s1,s2⟩:=Qaq ops.toList _ hk;simp only [Qzg,La] at hst
 have tol:∀ (i:Nat) o,ops[i]? = some o->ops.toList[i]? = some o:=fun i o h=>by simpa using h
 have hsz:ops.size=(pre++c0::suf).length:=by simpa using s1
 have hszn:ops.size=pre.length+(suf.length+1):=by rw [hsz];simp
 have inpre:∀ {i:Nat} {c:COper},pre[i]? = some c->i<pre.length∧(pre++c0::suf)[i]? = some c:=fun {i c} hc=>by
  have hlt:=(Lb.1 hc).1;exact ⟨hlt,by rw [Lr hlt];exact hc⟩
 have hed:EdgeOk ops (pre++c0::suf):=fun i o c ho hc=>by
  have:=Qgm ops.toList _ 0 hst.1 i o c (tol i o ho) hc;simpa using this
 have hop:∀ (i:Nat) o c,ops[i]? = some o->(pre++c0::suf)[i]? = some c->o.dst=c.dst∧Qh3 P o.op c.op=true∧Q0q ops o.guard c.guard=true:=fun i o c ho hc=>s2 i o c (tol i o ho) hc
 have hbef:∀ (i:Nat) c,pre.length≤i->(pre++c0::suf)[i]? = some c->∀ b,b<i->c.bef.testBit b=true:=fun i c hi hc b hb=>by
  rw [Ly hi] at hc;exact Qku _ _ htail _ c hc b (by omega)
 have p:Plan P Gl ops pre tms Hs vs es Rs As:=by
  refine { toPath:=hpath,size:=by omega,apart:=fun i i' c c' hlt hc hc'=>?_,op:=fun i o c ho hc=>hop i o c ho (inpre hc).2,edge:=fun i o c ho hc=>?_,slot:=fun i c t hc hd j d hj hne=>?_ }
  ·have:=(hap i c hc).2 i' c' hlt hc';simpa using this
  ·obtain ⟨q1,q2⟩:=hed i o c ho (inpre hc).2;refine ⟨q1,?_⟩;rw [← q2,Qpi (fun e he hb=>by have:=q1 e he hb;have:=(inpre hc).1;omega)]
  have:=Qgk _ 0 hst.2 i c t (inpre hc).2 hd j d (inpre hj).2 (by simpa using hne);simpa using this
 refine wp_region_any hm ?_
 let w1:World := { w with drawn:=w.drawn+1 }
 have e1:Evo θ (Hs 0) w θ (pad (Hs pre.length).length (Hs 0)) w1:=Qqg θ (Hs 0) w _ _;have h01:(Hs 0).length≤(Hs pre.length).length:=p.len' (Ln _) (Lj _)
 have main:∀ (fuel:Nat) (listed:Array Bool) (θ':Th) (tm':List AV) (H':List AObj) (a':Act) (w':World),listed.size=ops.size->listed.toList.count false≤fuel ->
   (∀ i,pre.length≤i->i<ops.size->listed.getD i false=false) ->
   InvD pre tms Hs es θ w1 (fun i=>listed.getD i false=true) θ' tm' H' a' w' ->
   wpAny P .any ops (Z4c θ (Hs 0) w (fun ce tm' H'=>ce = .normal∧k tm' H')) fuel listed a' w':=by
  intro fuel
  induction fuel with
  | zero=>
   intro listed θ' tm' H' a' w' hls hcnt hun inv;exfalso
   have hlt:pre.length<listed.size:=by omega
   have hq:=hun pre.length (Lj _) (by omega)
   have:false∈listed.toList:=by
    rw [Nw];refine ⟨pre.length,?_⟩;simp [Array.getD,hlt] at hq;simp [hlt,hq]
   have:=Cf.2 this;omega
  | succ fuel ih=>
   intro listed θ' tm' H' a' w' hls hcnt hun inv
   by_cases hall:∀ i,i<pre.length->listed.getD i false=true
   ·-- all of the first part is done
    have hallI:∀ i,i<pre.length->(i<pre.length↔listed.getD i false=true):=fun i hi=>⟨fun _=>hall i hi,fun _=>hi⟩
    have e2:tm'=tms pre.length:=by
     apply Ni;intro t;exact inv.sl t pre.length (Lj _) (fun i c hc _=>hallI i (Lb.1 hc).1)
    have e3:H'=Hs pre.length:=by
     apply Ni;intro x;rw [inv.hp x pre.length (Lj _) (fun i hi _=>hallI i hi),Qt0]
    subst e2;subst e3
    have hcnt2:(c0::suf).length≤fuel+1:=by
     refine Na ?_ hcnt;have hd:(listed.toList.drop pre.length).count false≤listed.toList.count false:=List.Sublist.count_le _ (List.drop_sublist _ _);refine Na ?_ hd
     have:listed.toList.drop pre.length=List.replicate (suf.length+1) false:=by
      apply Ni;intro i;rw [Mn,Nd];split
      ·rename_i hi
       have hlt:pre.length+i<listed.size:=by omega
       have hq:=hun (pre.length+i) (by omega) (by omega);simp [Array.getD,hlt] at hq;simp [hlt,hq]
      rename_i hi
      have hge:¬ pre.length+i<listed.size:=by omega
      simp [hge]
     rw [this];simp
    refine Qg7 hsz hed hbef hop (k:=k) hG (fun tm3 H3 θ3 a3 w3 hk3 t3 h3 ev3=>⟨.normal,_,_,θ3,trivial,⟨rfl,hk3⟩,t3,h3,ev3⟩) (c0::suf) pre.length (Lj _) (by simp) _ _ hkk θ' a' w'
     ⟨e1.trans inv.evo,h01,inv.old⟩ inv.hT inv.hH (fuel+1) listed hls (fun i hi=>⟨fun hl=>?_,fun hl=>hall i hl⟩) hcnt2
    apply Mj;intro hn;have:=hun i (by omega) hi;rw [this] at hl;cases hl
   refine ⟨fun hr=>?_,fun j hj=>?_⟩
   ·exfalso;apply hall;intro j
    induction j using Nat.strongRecOn with
    | _ j ihj=>
     intro hj;apply Mj;intro hn
     have hjs:j<ops.size:=by omega
     have ho:=Mv hjs;have hc:=Ld hj
     have:j∈Region.ready .any ops listed:=by
      rw [mem_ready];refine ⟨?_,_,ho,fun e he hb=>?_⟩
      ·have hlt:j<listed.size:=by omega
       simp [Array.getD,hlt] at hn ⊢;exact hn
      have hlt:=(p.edge j _ _ ho hc).1 e he hb;exact ihj e.on hlt (by omega)
     rw [hr] at this;cases this
   rw [mem_ready] at hj;obtain ⟨h0,o,ho,he⟩:=hj
   have hlt:j<listed.size:=by rw [hls];exact (Mt.1 ho).1
   have hget:listed[j]=false:=by simp [Array.getD,hlt] at h0;exact h0
   have hjp:j<pre.length:=by
    apply Mj;intro hn;have hcj:(pre++c0::suf)[j]? = some (pre++c0::suf)[j]:=Ld (by omega);apply hall;intro i hi;have hb:=hbef j _ (by omega) hcj i (by omega)
    exact hed.closed (L:=fun i=>listed.getD i false=true) (j:=j) (fun i c b _ hc hL hb=>by
     by_cases hip:i<pre.length
     ·rw [Lr hip] at hc;exact inv.clo i c b hc hL hb
     exfalso;have hil:i<(pre++c0::suf).length:=(Lb.1 hc).1;have:=hun i (by omega) (by omega)
     rw [this] at hL;cases hL) ho hcj he hb
   refine inv.goes p ((hG.evo e1).evo inv.evo) hjp ho (by simp [Array.getD,hlt,hget]) he (fun θ2 tm2 H2 a2 w2 inv2=>ih _ θ2 tm2 H2 a2 w2 (by simp [hls]) ?_ ?_ ?_)
   ·rw [Cx,List.count_set (by simpa using hlt)];have hmem:false∈listed.toList:=Nw.2 ⟨j,by simp [hlt,hget]⟩;have:=Cf.2 hmem
    have e3:listed.toList[j]'(by simpa using hlt)=false:=by simpa using hget
    rw [e3];have q1:(if (false == false)=true then 1 else 0)=1:=rfl;have q2:(if (true == false)=true then 1 else 0)=0:=rfl;rw [q1,q2];omega
   ·intro i hi1 hi2;rw [getD_set_ne false (by omega:j≠i)];exact hun i hi1 hi2
   have e:(fun i=>listed.getD i false=true∨i=j)=(fun i=>(listed.setIfInBounds j true).getD i false=true):=by
    funext i
    apply propext
    by_cases hij:i=j
    ·subst hij;simp [Array.getD,hlt]
    simp only [hij,or_false];rw [getD_set_ne false (fun e=>hij e.symm)]
   rw [← e];exact inv2
 refine main ops.size _ θ (tms 0) (pad (Hs pre.length).length (Hs 0)) a w1 (by simp) (by simp) (fun i _ hi=>by simp [Array.getD,hi]) ?_;refine ⟨hT.mono e1,Z0k hH _ _,.refl _ _ _,fun _ _=>rfl,Qm1 h01,rfl,?_,?_,?_,?_⟩
 ·intro j c b _ h;exfalso;revert h;simp only [Array.getD]
  split<;>simp
 ·intro t j hj hcond
  have hno:∀ i c,0≤i->i<0+j->pre[i]? = some c->c.dst≠some t:=fun i c _ hlt hc hd=>by
   have:=(hcond i c hc hd).1 (by omega);simp [Array.getD] at this
  have:=p.tsame (i:=0) (t:=t) j (by omega) hno;rw [← this,Mq]
 ·intro x j hj hcond
  have hno:∀ i,0≤i->i<0+j->¬ Aff Hs es i x:=fun i _ hlt ha=>by
   have:=(hcond i (by omega) ha).1 (by omega);simp [Array.getD] at this
  have:=p.same (i:=0) (x:=x) (N:=(Hs pre.length).length) (Lj _) j (by omega) hno;rw [← this,Mq]
 intro j hj _ i _;have:=p.len' (Ln j) (by omega);exact hH.fresh _ (by omega)
end
end
end Go.Av
namespace Go.Av
noncomputable section
section
variable {P:Program} {Gl:Nat->Option (List PV)}
end
end
end Go.Av
