/- Part of FromsnNames: the law returns true; no condition. -/
import Derived.Test.YtfgpphgmjcnleaaGreatDoorAvDraws
set_option linter.all false
namespace Go.Av
noncomputable section
section
variable {P:Program} {Gl:Nat->Option (List PV)}
def Qar:Nat->List COper->Bool
 | _,[]=>true
 | j,c::r=>Nat.beq c.bef (2 ^ j - 1)&&Qar (j+1) r
theorem Q7r:∀ (r:List COper) (j:Nat),Qar j r=true->∀ (i:Nat) c,r[i]? = some c->∀ b,b<j+i->c.bef.testBit b=true
 | [],_,_,i,c,h=>by simp at h
 | d::r,j,ht,i,c,h=>by
  simp only [Qar,Lb] at ht;obtain ⟨h1,h2⟩:=ht
  cases i with
  | zero=>
   simp at h;subst h;intro b hb;rw [Na h1,Lw];simpa using hb
  | succ i=>
   intro b hb;exact Q7r r (j+1) h2 i c (by simpa using h) b (by omega)
theorem Q3q {pre suf:List COper} {o:Oper} (h:∀ e∈o.after,Region.binds .any e=true->e.on<pre.length):Q2g (pre++suf) o=Q2g pre o:=by
 unfold Q2g
 have:∀ (l:List Edge) (b:Nat),(∀ e∈l,Region.binds .any e=true->e.on<pre.length) ->
   l.foldl (fun b e=>if Region.binds .any e then (match (pre++suf)[e.on]? with | some d=>b ||| (d.bef ||| 1 <<< e.on) | none=>b) else b) b =
   l.foldl (fun b e=>if Region.binds .any e then (match pre[e.on]? with | some d=>b ||| (d.bef ||| 1 <<< e.on) | none=>b) else b) b:=by
  intro l
  induction l with
  | nil=>intro b _;rfl
  | cons e l ih=>
   intro b hl;simp only [Bp]
   have e1:(if Region.binds .any e then (match (pre++suf)[e.on]? with | some d=>b ||| (d.bef ||| 1 <<< e.on) | none=>b) else b)=(if Region.binds .any e then (match pre[e.on]? with | some d=>b ||| (d.bef ||| 1 <<< e.on) | none=>b) else b):=by
    by_cases hb:Region.binds .any e=true
    ·rw [Af hb,Af hb,Lh (hl e (.head _) hb)]
    rw [Ae hb,Ae hb]
   rw [e1];exact ih _ (fun e' he'=>hl e' (.tail _ he'))
 exact this _ _ (fun e he=>h e (by simpa using he))
def EdgeOk (ops:Array Oper) (cs:List COper):Prop:=∀ (i:Nat) o c,ops[i]? = some o->cs[i]? = some c->(∀ e∈o.after,Region.binds .any e=true->e.on<i)∧Q2g cs o=c.bef
theorem EdgeOk.closed {ops:Array Oper} {cs:List COper} (p:EdgeOk ops cs) {L:Nat->Prop} {j:Nat} {o:Oper} {c:COper} (hL:∀ (i:Nat) c b,i<j->cs[i]? = some c->L i->c.bef.testBit b=true->L b)
  (ho:ops[j]? = some o) (hc:cs[j]? = some c) (he:∀ e∈o.after,Region.binds .any e=true->L e.on) {b:Nat} (hb:c.bef.testBit b=true):L b:=by
 rw [← (p j o c ho hc).2] at hb
 rcases Q60 b o.after.toList 0 hb with h | ⟨e,h1,h2,d,h3,h4⟩
 ·simp at h
 have hlt:=(p j o c ho hc).1 e (by simpa using h1) h2;have hle:=he e (by simpa using h1) h2
 rcases h4 with h4 | rfl
 ·exact hL e.on d b hlt h3 hle h4
 exact hle
theorem EdgeOk.lt {ops:Array Oper} {cs:List COper} (p:EdgeOk ops cs) (hsz:ops.size=cs.length):∀ (j:Nat) (c:COper) (b:Nat),cs[j]? = some c->c.bef.testBit b=true->b<j:=by
 intro j
 induction j using Nat.strongRecOn with
 | _ j ih=>
  intro c b hc hb;have hjl:=(La.1 hc).1;have ho:ops[j]? = some ops[j]:=Lr (by omega);rw [← (p j _ c ho hc).2] at hb
  rcases Q60 b (ops[j]).after.toList 0 hb with h | ⟨e,h1,h2,d,h3,h4⟩
  ·simp at h
  have hlt:=(p j _ c ho hc).1 e (by simpa using h1) h2
  rcases h4 with h4 | rfl
  ·have:=ih e.on hlt d b h3 h4;omega
  exact hlt
theorem Q7j {ops:Array Oper} {all:List COper} (hsz:ops.size=all.length) (hed:EdgeOk ops all) {n0:Nat} (hbef:∀ (i:Nat) c,n0≤i->all[i]? = some c->∀ b,b<i->c.bef.testBit b=true)
  (hop:∀ (i:Nat) o c,ops[i]? = some o->all[i]? = some c->o.dst=c.dst∧Q1t P o.op c.op=true∧Z3 ops o.guard c.guard=true)
  {θ0:Th} {H0:List AObj} {w0:World} {k:List AV->List AObj->Prop} (hG0:GlobOK Gl θ0 H0 w0) {Q:Exit->Act->World->Prop}
  (hQ:∀ tm' H' θ' a' w',k tm' H'->TmOk θ' (Qe θ' H') w' tm' a'->Hp θ' H' w'->EvoS θ0 H0 w0 θ' H' w'->Q .normal a' w') :
  ∀ (suf:List COper) (m:Nat),n0≤m->all.drop m=suf->∀ tm H,Zc (EP P Gl) k suf tm H->∀ θ a w,EvoS θ0 H0 w0 θ H w->TmOk θ (Qe θ H) w tm a->Hp θ H w ->
  ∀ (fuel:Nat) (listed:Array Bool),listed.size=ops.size->(∀ i,i<ops.size->(listed.getD i false=true↔i<m))->suf.length≤fuel->wpAny P .any ops Q fuel listed a w
 | [],m,hm,hdr,tm,H,h,θ,a,w,hE,hT,hH,fuel,listed,hls,hli,hf=>by
  have hml:all.length≤m:=by
   apply Ln;intro hn;have:=congrArg List.length hdr;simp at this;omega
  have hr:Region.ready .any ops listed = []:=by
   cases hrr:Region.ready .any ops listed with
   | nil=>rfl
   | cons j rest=>
    have hj:j∈Region.ready .any ops listed:=by rw [hrr];exact .head _
    rw [mem_ready] at hj;obtain ⟨h0,o,ho,_⟩:=hj;have hlt:j<ops.size:=(Ls.1 ho).1;have:=(hli j hlt).2 (by omega)
    have hlt2:j<listed.size:=by omega
    simp [Array.getD,hlt2] at h0 this;rw [h0] at this;cases this
  have hq:Q .normal a w:=hQ tm H θ a w h hT hH hE
  cases fuel with
  | zero=>exact ⟨hr,hq⟩
  | succ f=>exact ⟨fun _=>hq,fun j hj=>by rw [hr] at hj;cases hj⟩
 | c::suf,m,hm,hdr,tm,H,h,θ,a,w,hE,hT,hH,fuel,listed,hls,hli,hf=>by
  have hml:m<all.length:=by
   apply Ln;intro hn;rw [Nr (by omega)] at hdr;cases hdr
  have hcm:all[m]? = some c:=by
   have:=congrArg (fun l=>l[0]?) hdr;simpa using this
  have hdr2:all.drop (m+1)=suf:=by
   have:=congrArg List.tail hdr;simpa [List.tail_drop] using this
  have hG:=hG0.evo hE.toEvo
  match fuel,hf with
  | fuel+1,hf=>
  have hom:ops[m]? = some ops[m]:=Lr (by omega)
  have clo:∀ (i:Nat) c b,all[i]? = some c->i<m->c.bef.testBit b=true->b<m:=fun i c b hc hi hb=>by have:=hed.lt hsz i c b hc hb;omega
  have only:∀ j∈Region.ready .any ops listed,j=m:=by
   intro j hj;rw [mem_ready] at hj;obtain ⟨h0,o,ho,he⟩:=hj;have hlt:j<ops.size:=(Ls.1 ho).1
   have hnm:¬ j<m:=fun hlt2=>by
    have:=(hli j hlt).2 hlt2
    have hl2:j<listed.size:=by omega
    simp [Array.getD,hl2] at h0 this;rw [h0] at this;cases this
   apply Ln;intro hne
   have hjm:m<j:=by omega
   have hcj:all[j]? = some all[j]:=Lc (by omega);have hb:=hbef j _ (by omega) hcj m hjm
   have:=hed.closed (L:=fun i=>i<ops.size∧listed.getD i false=true) (j:=j) (fun i c b hi hc hL hb=>by
     have h1:=(hli i hL.1).1 hL.2;have h2:=clo i c b hc h1 hb
     exact ⟨by omega,(hli b (by omega)).2 h2⟩) ho hcj (fun e he1 he2=>by
     have h1:=he e he1 he2;have h2:=(hed j o _ ho hcj).1 e he1 he2
     exact ⟨by omega,h1⟩) hb
   have:=(hli m this.1).1 this.2;omega
  have mready:m∈Region.ready .any ops listed:=by
   rw [mem_ready]
   have hlm:m<listed.size:=by omega
   refine ⟨?_,_,hom,fun e he hb=>?_⟩
   ·have h1:¬ listed.getD m false=true:=fun hh=>by have:=(hli m (by omega)).1 hh;omega
    simp [Array.getD,hlm] at h1 ⊢;exact h1
   have:=(hed m _ c hom hcm).1 e he hb;exact (hli e.on (by omega)).2 this
  obtain ⟨hd,hop1,hg⟩:=hop m _ c hom hcm
  have lnext:∀ i,i<ops.size->((listed.setIfInBounds m true).getD i false=true↔i<m+1):=by
   intro i hi
   have hlm:m<listed.size:=by omega
   by_cases him:i=m
   ·subst him;simp [Array.getD,hlm]
   rw [getD_set_ne false (fun e=>him e.symm),hli i hi];omega
  have run:∀ tm1,TmOk θ (Qe θ H) w tm1 a->X3 (EP P Gl) tm1 H (fun v hp=>put tm1 c.dst v fun tm=>Zc (EP P Gl) k suf tm hp) c.op->Region.wanted ops[m] (yielded ops a.tmps)=true ->
    wpOp P ops Q m (wpAny P .any ops Q fuel (listed.setIfInBounds m true)) a w:=by
   intro tm1 hT1 hev hw;unfold wpOp;rw [hom];simp only [hw,Ak];refine .inl (Q08 hT1 hH hG hop1 hev (fun v cv H' θ' w' hkv hrv hH' hE'=>?_));rw [Y2] at hkv;exact Q7j hsz hed hbef hop hG0 hQ suf (m+1) (by omega) hdr2 _ H' hkv θ' _ w' (hE.trans hE') (by rw [hd];exact (hT1.mono hE'.toEvo).put c.dst hrv) hH' fuel _ (by simp [hls]) lnext (by simp at hf;omega)
  have skip:∀ tm1,TmOk θ (Qe θ H) w tm1 a->(put tm1 c.dst Zd fun tm=>Zc (EP P Gl) k suf tm H)->Region.wanted ops[m] (yielded ops a.tmps)=false ->
    wpOp P ops Q m (wpAny P .any ops Q fuel (listed.setIfInBounds m true)) a w:=by
   intro tm1 hT1 hev hw;unfold wpOp;rw [hom];simp only [hw,Lu,Al];rw [Y2] at hev;exact Q7j hsz hed hbef hop hG0 hQ suf (m+1) (by omega) hdr2 _ H hev θ _ w hE (by rw [hd];exact hT1.put c.dst J0) hH fuel _ (by simp [hls]) lnext (by simp at hf;omega)
  refine ⟨fun hr=>(by rw [hr] at mready;cases mready),fun j hj=>?_⟩;obtain rfl:=only j hj;simp only [Wt] at h;generalize hoo:ops[j]=o at hd hop1 hg run skip hom
  cases hgc:c.guard with
  | none=>
   rw [hgc] at h hg
   cases hgo:o.guard with
   | some jb=>rw [hgo] at hg;simp [Z3] at hg
   | none=>exact run tm hT h (by simp [Region.wanted,hgo])
  | some tb=>
   obtain ⟨t,want⟩:=tb;rw [hgc] at h hg
   cases hgo:o.guard with
   | none=>rw [hgo] at hg;simp [Z3] at hg
   | some jb=>
    obtain ⟨j2,b⟩:=jb;rw [hgo] at hg;simp only [Z3,Lb,Aj] at hg;obtain ⟨rfl,hj2⟩:=hg;simp only [Wl] at h;generalize hvt:tm.getD t .any=vt at h;split at h
    ·rename_i x;obtain ⟨cv,e1,e2,e3⟩:=G3 hT hvt (by simp);have:=Q1h e3;subst this;have hk1:=hT.known e2
     have hy':yielded ops a.tmps j2=some x:=by unfold yielded;rw [hj2];simp only [Lq,e1]
     simp only [Gt,Wh] at h;cases x<;>cases b<;>simp only [Ak,Al,Lu] at h
     ·exact run _ hk1 (by simpa using h) (by simp [Region.wanted,hgo,hy'])
     ·exact skip _ hk1 (by simpa using h) (by simp [Region.wanted,hgo,hy'])
     ·exact skip _ hk1 (by simpa using h) (by simp [Region.wanted,hgo,hy'])
     exact run _ hk1 (by simpa using h) (by simp [Region.wanted,hgo,hy'])
    ·obtain ⟨cv,e1,e2,e3⟩:=G3 hT hvt (by simp)
     have hcv:cv = .tuple #[]:=by
      cases e3 with
      | p _ _ hp=>
       cases hp with
       | tuple _ C hn hv=>
        have:C = #[]:=by apply Mh;simpa using hn
        rw [this]
     have hy':yielded ops a.tmps j2=none:=by unfold yielded;rw [hj2];simp only [Lq,e1,hcv]
     exact skip _ hT h (by simp [Region.wanted,hgo,hy'])
    exact h.elim
end
end
end Go.Av
namespace Go.Av
noncomputable section
section
variable {P:Program} {Gl:Nat->Option (List PV)}
theorem Q9x {pre:List COper} {c0:COper} {suf:List COper} {tm:List AV} {H:List AObj} {k:List AV->List AObj->Prop} (htail:Qar pre.length (c0::suf)=true)
  (h:Zk (EP P Gl) (Qv P Gl) (fun tm H=>Zc (EP P Gl) k (c0::suf) tm H) pre tm H 0 []):Q27 P Gl (pre++c0::suf) tm H k:=by
 intro id ops hk hm hst θ a w hT hH hG;obtain ⟨_,tms,Hs,vs,es,Rs,As,rfl,rfl,hkk,hpath,hap⟩:=Q24 pre tm H 0 [] h;obtain ⟨s1,s2⟩:=Vr ops.toList _ hk;simp only [Qgh,Lb] at hst
 have tol:∀ (i:Nat) o,ops[i]? = some o->ops.toList[i]? = some o:=fun i o h=>by simpa using h
 have hsz:ops.size=(pre++c0::suf).length:=by simpa using s1
 have hszn:ops.size=pre.length+(suf.length+1):=by rw [hsz];simp
 have inpre:∀ {i:Nat} {c:COper},pre[i]? = some c->i<pre.length∧(pre++c0::suf)[i]? = some c:=fun {i c} hc=>by
  have hlt:=(La.1 hc).1;exact ⟨hlt,by rw [Lh hlt];exact hc⟩
 have hed:EdgeOk ops (pre++c0::suf):=fun i o c ho hc=>by
  have:=Q09 ops.toList _ 0 hst.1 i o c (tol i o ho) hc;simpa using this
 have hop:∀ (i:Nat) o c,ops[i]? = some o->(pre++c0::suf)[i]? = some c->o.dst=c.dst∧Q1t P o.op c.op=true∧Z3 ops o.guard c.guard=true:=fun i o c ho hc=>s2 i o c (tol i o ho) hc
 have hbef:∀ (i:Nat) c,pre.length≤i->(pre++c0::suf)[i]? = some c->∀ b,b<i->c.bef.testBit b=true:=fun i c hi hc b hb=>by
  rw [Lm hi] at hc;exact Q7r _ _ htail _ c hc b (by omega)
 have p:Plan P Gl ops pre tms Hs vs es Rs As:=by
  refine { toPath:=hpath,size:=by omega,apart:=fun i i' c c' hlt hc hc'=>?_,op:=fun i o c ho hc=>hop i o c ho (inpre hc).2,edge:=fun i o c ho hc=>?_,slot:=fun i c t hc hd j d hj hne=>?_ }
  ·have:=(hap i c hc).2 i' c' hlt hc';simpa using this
  ·obtain ⟨q1,q2⟩:=hed i o c ho (inpre hc).2;refine ⟨q1,?_⟩;rw [← q2,Q3q (fun e he hb=>by have:=q1 e he hb;have:=(inpre hc).1;omega)]
  have:=Q0b _ 0 hst.2 i c t (inpre hc).2 hd j d (inpre hj).2 (by simpa using hne);simpa using this
 refine wp_region_any hm ?_
 let w1:World := { w with drawn:=w.drawn+1 }
 have e1:Evo θ (Hs 0) w θ (pad (Hs pre.length).length (Hs 0)) w1:=Q7m θ (Hs 0) w _ _;have h01:(Hs 0).length≤(Hs pre.length).length:=p.len' (Nh _) (Lj _)
 have main:∀ (fuel:Nat) (listed:Array Bool) (θ':Th) (tm':List AV) (H':List AObj) (a':Act) (w':World),listed.size=ops.size->listed.toList.count false≤fuel ->
   (∀ i,pre.length≤i->i<ops.size->listed.getD i false=false) ->
   InvD pre tms Hs es θ w1 (fun i=>listed.getD i false=true) θ' tm' H' a' w' ->
   wpAny P .any ops (Qp0 θ (Hs 0) w (fun ce tm' H'=>ce = .normal∧k tm' H')) fuel listed a' w':=by
  intro fuel
  induction fuel with
  | zero=>
   intro listed θ' tm' H' a' w' hls hcnt hun inv;exfalso
   have hlt:pre.length<listed.size:=by omega
   have hq:=hun pre.length (Lj _) (by omega)
   have:false∈listed.toList:=by
    rw [Mf];refine ⟨pre.length,?_⟩;simp [Array.getD,hlt] at hq;simp [hlt,hq]
   have:=Ms.2 this;omega
  | succ fuel ih=>
   intro listed θ' tm' H' a' w' hls hcnt hun inv
   by_cases hall:∀ i,i<pre.length->listed.getD i false=true
   ·-- all of the first part is done
    have hallI:∀ i,i<pre.length->(i<pre.length↔listed.getD i false=true):=fun i hi=>⟨fun _=>hall i hi,fun _=>hi⟩
    have e2:tm'=tms pre.length:=by
     apply Mb;intro t;exact inv.sl t pre.length (Lj _) (fun i c hc _=>hallI i (La.1 hc).1)
    have e3:H'=Hs pre.length:=by
     apply Mb;intro x;rw [inv.hp x pre.length (Lj _) (fun i hi _=>hallI i hi),Q6u]
    subst e2;subst e3
    have hcnt2:(c0::suf).length≤fuel+1:=by
     refine Nk ?_ hcnt;have hd:(listed.toList.drop pre.length).count false≤listed.toList.count false:=List.Sublist.count_le _ (List.drop_sublist _ _);refine Nk ?_ hd
     have:listed.toList.drop pre.length=List.replicate (suf.length+1) false:=by
      apply Mb;intro i;rw [Ly,Mi];split
      ·rename_i hi
       have hlt:pre.length+i<listed.size:=by omega
       have hq:=hun (pre.length+i) (by omega) (by omega);simp [Array.getD,hlt] at hq;simp [hlt,hq]
      rename_i hi
      have hge:¬ pre.length+i<listed.size:=by omega
      simp [hge]
     rw [this];simp
    refine Q7j hsz hed hbef hop (k:=k) hG (fun tm3 H3 θ3 a3 w3 hk3 t3 h3 ev3=>⟨.normal,_,_,θ3,trivial,⟨rfl,hk3⟩,t3,h3,ev3⟩) (c0::suf) pre.length (Lj _) (by simp) _ _ hkk θ' a' w'
     ⟨e1.trans inv.evo,h01,inv.old⟩ inv.hT inv.hH (fuel+1) listed hls (fun i hi=>⟨fun hl=>?_,fun hl=>hall i hl⟩) hcnt2
    apply Ln;intro hn;have:=hun i (by omega) hi;rw [this] at hl;cases hl
   refine ⟨fun hr=>?_,fun j hj=>?_⟩
   ·exfalso;apply hall;intro j
    induction j using Nat.strongRecOn with
    | _ j ihj=>
     intro hj;apply Ln;intro hn
     have hjs:j<ops.size:=by omega
     have ho:=Lr hjs;have hc:=Lc hj
     have:j∈Region.ready .any ops listed:=by
      rw [mem_ready];refine ⟨?_,_,ho,fun e he hb=>?_⟩
      ·have hlt:j<listed.size:=by omega
       simp [Array.getD,hlt] at hn ⊢;exact hn
      have hlt:=(p.edge j _ _ ho hc).1 e he hb;exact ihj e.on hlt (by omega)
     rw [hr] at this;cases this
   rw [mem_ready] at hj;obtain ⟨h0,o,ho,he⟩:=hj
   have hlt:j<listed.size:=by rw [hls];exact (Ls.1 ho).1
   have hget:listed[j]=false:=by simp [Array.getD,hlt] at h0;exact h0
   have hjp:j<pre.length:=by
    apply Ln;intro hn;have hcj:(pre++c0::suf)[j]? = some (pre++c0::suf)[j]:=Lc (by omega);apply hall;intro i hi;have hb:=hbef j _ (by omega) hcj i (by omega)
    exact hed.closed (L:=fun i=>listed.getD i false=true) (j:=j) (fun i c b _ hc hL hb=>by
     by_cases hip:i<pre.length
     ·rw [Lh hip] at hc;exact inv.clo i c b hc hL hb
     exfalso;have hil:i<(pre++c0::suf).length:=(La.1 hc).1;have:=hun i (by omega) (by omega)
     rw [this] at hL;cases hL) ho hcj he hb
   refine inv.goes p ((hG.evo e1).evo inv.evo) hjp ho (by simp [Array.getD,hlt,hget]) he (fun θ2 tm2 H2 a2 w2 inv2=>ih _ θ2 tm2 H2 a2 w2 (by simp [hls]) ?_ ?_ ?_)
   ·rw [My,Bi (by simpa using hlt)];have hmem:false∈listed.toList:=Mf.2 ⟨j,by simp [hlt,hget]⟩;have:=Ms.2 hmem
    have e3:listed.toList[j]'(by simpa using hlt)=false:=by simpa using hget
    rw [e3];have q1:(if (false == false)=true then 1 else 0)=1:=rfl;have q2:(if (true == false)=true then 1 else 0)=0:=rfl;rw [q1,q2];omega
   ·intro i hi1 hi2;rw [getD_set_ne false (by omega:j≠i)];exact hun i hi1 hi2
   have e:(fun i=>listed.getD i false=true∨i=j)=(fun i=>(listed.setIfInBounds j true).getD i false=true):=by
    funext i
    apply propext
    by_cases hij:i=j
    ·subst hij;simp [Array.getD,hlt]
    simp only [hij,or_false];rw [getD_set_ne false (fun e=>hij e.symm)]
   rw [← e];exact inv2
 refine main ops.size _ θ (tms 0) (pad (Hs pre.length).length (Hs 0)) a w1 (by simp) (by simp) (fun i _ hi=>by simp [Array.getD,hi]) ?_;refine ⟨hT.mono e1,Qf7 hH _ _,.refl _ _ _,fun _ _=>rfl,Q7k h01,rfl,?_,?_,?_,?_⟩
 ·intro j c b _ h;exfalso;revert h;simp only [Array.getD]
  split<;>simp
 ·intro t j hj hcond
  have hno:∀ i c,0≤i->i<0+j->pre[i]? = some c->c.dst≠some t:=fun i c _ hlt hc hd=>by
   have:=(hcond i c hc hd).1 (by omega);simp [Array.getD] at this
  have:=p.tsame (i:=0) (t:=t) j (by omega) hno;rw [← this,Lv]
 ·intro x j hj hcond
  have hno:∀ i,0≤i->i<0+j->¬ Aff Hs es i x:=fun i _ hlt ha=>by
   have:=(hcond i (by omega) ha).1 (by omega);simp [Array.getD] at this
  have:=p.same (i:=0) (x:=x) (N:=(Hs pre.length).length) (Lj _) j (by omega) hno;rw [← this,Lv]
 intro j hj _ i _;have:=p.len' (Nh j) (by omega);exact hH.fresh _ (by omega)
theorem Yf (p:Nat) {cs:List COper} {c0:COper} {suf:List COper} {tm:List AV} {H:List AObj} {k:List AV->List AObj->Prop} (hs:cs.drop p=c0::suf) (htail:Qar (cs.take p).length (c0::suf)=true)
  (h:Zk (EP P Gl) (Qv P Gl) (fun tm H=>Zc (EP P Gl) k (c0::suf) tm H) (cs.take p) tm H 0 []):Q27 P Gl cs tm H k:=by
 have:=Q9x htail h;rw [← hs,Ml] at this;exact this
end
end
end Go.Av
namespace Go.Av
noncomputable section
section
variable {P:Program} {Gl:Nat->Option (List PV)}
theorem Qaf {ops:Array Oper} {all:List COper} (hsz:ops.size=all.length) (hed:EdgeOk ops all) {n0 q:Nat} (hq:q≤all.length) (hbef:∀ (i:Nat) c,n0≤i->all[i]? = some c->∀ b,b<i->b<q->c.bef.testBit b=true)
  (hop:∀ (i:Nat) o c,ops[i]? = some o->all[i]? = some c->o.dst=c.dst∧Q1t P o.op c.op=true∧Z3 ops o.guard c.guard=true)
  {θ0:Th} {H0:List AObj} {w0:World} {k:List AV->List AObj->Prop} (hG0:GlobOK Gl θ0 H0 w0) {Q:Exit->Act->World->Prop}
  (hB:∀ tm' H' θ' a' w' fuel (listed:Array Bool),k tm' H'->EvoS θ0 H0 w0 θ' H' w'->TmOk θ' (Qe θ' H') w' tm' a'->Hp θ' H' w'->listed.size=ops.size->(∀ i,i<ops.size->(listed.getD i false=true↔i<q))->all.length - q≤fuel->wpAny P .any ops Q fuel listed a' w') :
  ∀ (suf:List COper) (m:Nat),n0≤m->m+suf.length=q->(∃ rest,all.drop m=suf++rest)->∀ tm H,Zc (EP P Gl) k suf tm H->∀ θ a w,EvoS θ0 H0 w0 θ H w->TmOk θ (Qe θ H) w tm a->Hp θ H w ->
  ∀ (fuel:Nat) (listed:Array Bool),listed.size=ops.size->(∀ i,i<ops.size->(listed.getD i false=true↔i<m))->all.length - m≤fuel->wpAny P .any ops Q fuel listed a w
 | [],m,hm,hmq,hdr,tm,H,h,θ,a,w,hE,hT,hH,fuel,listed,hls,hli,hf=>by
  have:m=q:=by simpa using hmq
  subst this;exact hB tm H θ a w fuel listed h hE hT hH hls hli hf
 | c::suf,m,hm,hmq,⟨rest,hdr⟩,tm,H,h,θ,a,w,hE,hT,hH,fuel,listed,hls,hli,hf=>by
  have hml:m<all.length:=by
   have:=congrArg List.length hdr;simp at this;omega
  have hmq2:m<q:=by simp at hmq;omega
  have hcm:all[m]? = some c:=by
   have:=congrArg (fun l=>l[0]?) hdr;simpa using this
  have hdr2:all.drop (m+1)=suf++rest:=by
   have:=congrArg List.tail hdr;simpa [List.tail_drop] using this
  have hG:=hG0.evo hE.toEvo;obtain ⟨fuel,rfl⟩:∃ f,fuel=f+1:=⟨fuel - 1,by omega⟩;have hom:ops[m]? = some ops[m]:=Lr (by omega)
  have clo:∀ (i:Nat) c b,all[i]? = some c->i<m->c.bef.testBit b=true->b<m:=fun i c b hc hi hb=>by have:=hed.lt hsz i c b hc hb;omega
  have only:∀ j∈Region.ready .any ops listed,j=m:=by
   intro j hj;rw [mem_ready] at hj;obtain ⟨h0,o,ho,he⟩:=hj;have hlt:j<ops.size:=(Ls.1 ho).1
   have hnm:¬ j<m:=fun hlt2=>by
    have:=(hli j hlt).2 hlt2
    have hl2:j<listed.size:=by omega
    simp [Array.getD,hl2] at h0 this;rw [h0] at this;cases this
   apply Ln;intro hne
   have hjm:m<j:=by omega
   have hcj:all[j]? = some all[j]:=Lc (by omega);have hb:=hbef j _ (by omega) hcj m hjm hmq2
   have:=hed.closed (L:=fun i=>i<ops.size∧listed.getD i false=true) (j:=j) (fun i c b hi hc hL hb=>by
     have h1:=(hli i hL.1).1 hL.2;have h2:=clo i c b hc h1 hb
     exact ⟨by omega,(hli b (by omega)).2 h2⟩) ho hcj (fun e he1 he2=>by
     have h1:=he e he1 he2;have h2:=(hed j o _ ho hcj).1 e he1 he2
     exact ⟨by omega,h1⟩) hb
   have:=(hli m this.1).1 this.2;omega
  have mready:m∈Region.ready .any ops listed:=by
   rw [mem_ready]
   have hlm:m<listed.size:=by omega
   refine ⟨?_,_,hom,fun e he hb=>?_⟩
   ·have h1:¬ listed.getD m false=true:=fun hh=>by have:=(hli m (by omega)).1 hh;omega
    simp [Array.getD,hlm] at h1 ⊢;exact h1
   have:=(hed m _ c hom hcm).1 e he hb;exact (hli e.on (by omega)).2 this
  obtain ⟨hd,hop1,hg⟩:=hop m _ c hom hcm
  have lnext:∀ i,i<ops.size->((listed.setIfInBounds m true).getD i false=true↔i<m+1):=by
   intro i hi
   have hlm:m<listed.size:=by omega
   by_cases him:i=m
   ·subst him;simp [Array.getD,hlm]
   rw [getD_set_ne false (fun e=>him e.symm),hli i hi];omega
  have run:∀ tm1,TmOk θ (Qe θ H) w tm1 a->X3 (EP P Gl) tm1 H (fun v hp=>put tm1 c.dst v fun tm=>Zc (EP P Gl) k suf tm hp) c.op->Region.wanted ops[m] (yielded ops a.tmps)=true ->
    wpOp P ops Q m (wpAny P .any ops Q fuel (listed.setIfInBounds m true)) a w:=by
   intro tm1 hT1 hev hw;unfold wpOp;rw [hom];simp only [hw,Ak];refine .inl (Q08 hT1 hH hG hop1 hev (fun v cv H' θ' w' hkv hrv hH' hE'=>?_));rw [Y2] at hkv;exact Qaf hsz hed hq hbef hop hG0 hB suf (m+1) (by omega) (by simp at hmq;omega) ⟨rest,hdr2⟩ _ H' hkv θ' _ w' (hE.trans hE') (by rw [hd];exact (hT1.mono hE'.toEvo).put c.dst hrv) hH' fuel _ (by simp [hls]) lnext (by omega)
  have skip:∀ tm1,TmOk θ (Qe θ H) w tm1 a->(put tm1 c.dst Zd fun tm=>Zc (EP P Gl) k suf tm H)->Region.wanted ops[m] (yielded ops a.tmps)=false ->
    wpOp P ops Q m (wpAny P .any ops Q fuel (listed.setIfInBounds m true)) a w:=by
   intro tm1 hT1 hev hw;unfold wpOp;rw [hom];simp only [hw,Lu,Al];rw [Y2] at hev;exact Qaf hsz hed hq hbef hop hG0 hB suf (m+1) (by omega) (by simp at hmq;omega) ⟨rest,hdr2⟩ _ H hev θ _ w hE (by rw [hd];exact hT1.put c.dst J0) hH fuel _ (by simp [hls]) lnext (by omega)
  refine ⟨fun hr=>(by rw [hr] at mready;cases mready),fun j hj=>?_⟩;obtain rfl:=only j hj;simp only [Wt] at h;generalize hoo:ops[j]=o at hd hop1 hg run skip hom
  cases hgc:c.guard with
  | none=>
   rw [hgc] at h hg
   cases hgo:o.guard with
   | some jb=>rw [hgo] at hg;simp [Z3] at hg
   | none=>exact run tm hT h (by simp [Region.wanted,hgo])
  | some tb=>
   obtain ⟨t,want⟩:=tb;rw [hgc] at h hg
   cases hgo:o.guard with
   | none=>rw [hgo] at hg;simp [Z3] at hg
   | some jb=>
    obtain ⟨j2,b⟩:=jb;rw [hgo] at hg;simp only [Z3,Lb,Aj] at hg;obtain ⟨rfl,hj2⟩:=hg;simp only [Wl] at h;generalize hvt:tm.getD t .any=vt at h;split at h
    ·rename_i x;obtain ⟨cv,e1,e2,e3⟩:=G3 hT hvt (by simp);have:=Q1h e3;subst this;have hk1:=hT.known e2
     have hy':yielded ops a.tmps j2=some x:=by unfold yielded;rw [hj2];simp only [Lq,e1]
     simp only [Gt,Wh] at h;cases x<;>cases b<;>simp only [Ak,Al,Lu] at h
     ·exact run _ hk1 (by simpa using h) (by simp [Region.wanted,hgo,hy'])
     ·exact skip _ hk1 (by simpa using h) (by simp [Region.wanted,hgo,hy'])
     ·exact skip _ hk1 (by simpa using h) (by simp [Region.wanted,hgo,hy'])
     exact run _ hk1 (by simpa using h) (by simp [Region.wanted,hgo,hy'])
    ·obtain ⟨cv,e1,e2,e3⟩:=G3 hT hvt (by simp)
     have hcv:cv = .tuple #[]:=by
      cases e3 with
      | p _ _ hp=>
       cases hp with
       | tuple _ C hn hv=>
        have:C = #[]:=by apply Mh;simpa using hn
        rw [this]
     have hy':yielded ops a.tmps j2=none:=by unfold yielded;rw [hj2];simp only [Lq,e1,hcv]
     exact skip _ hT h (by simp [Region.wanted,hgo,hy'])
    exact h.elim
def Q1v (c:COper):Bool:=c.guard.isNone&&(match c.op with
 | .move (.t _)=>true
 | .move (.c _)=>true
 | .extract (.t _) _=>true
 | _=>false)
def Q47 (tm:List AV):COp->Option AV
 | .move x=>some (Q1 tm x)
 | .extract x i=>match Q1 tm x with
  | .tuple vs=>vs[i]?
  | .p (.tuple vs)=>(vs[i]?).map .p
  | _=>none
 | _=>none
theorem Qho {c:COper} (hc:Q1v c=true) (tm:List AV) (H:List AObj) (kk:AV->List AObj->Prop):X3 (EP P Gl) tm H kk c.op↔∃ v,Q47 tm c.op=some v∧kk v H:=by
 unfold Q1v at hc;simp only [Lb] at hc;obtain ⟨_,hc⟩:=hc;split at hc
 ·rename_i i h;rw [h];simp only [X3,Q9r,Qi,Q47,Ld,exists_eq_left']
 ·rename_i i h;rw [h];simp only [X3,Q9r,Qi,Q47,Ld,exists_eq_left']
 ·rename_i i n h;rw [h];show Q4o (EP P Gl) tm H kk _ _↔_;unfold Q4o;rw [Qi];simp only [Q47]
  cases Q1 tm (.t i) with
  | tuple vs=>
   simp only []
   cases hv:vs[n]? with
   | none=>simp only [reduceCtorEq,false_and,exists_false,iff_false];exact fun h=>h
   | some v=>simp
  | p x=>
   cases x with
   | tuple vs=>
    simp only []
    cases hv:vs[n]? with
    | none=>simp only [Bc,reduceCtorEq,false_and,exists_false,iff_false];exact fun h=>h
    | some v=>simp
   | _=>simp only [reduceCtorEq,false_and,exists_false,iff_false];exact fun h=>h
  | _=>simp only [reduceCtorEq,false_and,exists_false,iff_false];exact fun h=>h
 cases hc
theorem Qiy {c:COper} (hc:Q1v c=true) {tm tm':List AV} (h:∀ t∈c.slots,tm[t]? = tm'[t]?):Q47 tm c.op=Q47 tm' c.op:=by
 unfold Q1v at hc;simp only [Lb] at hc;obtain ⟨hg,hc⟩:=hc;split at hc
 ·rename_i i ho;have:=h i (by unfold COper.slots;rw [ho];simp [COp.slots,Qz]);rw [ho];simp only [Q47,Q1,Le,this]
 ·rename_i i ho;rw [ho];rfl
 ·rename_i i n ho;have:=h i (by unfold COper.slots;rw [ho];simp [COp.slots,Qz]);rw [ho];simp only [Q47,Q1,Le,this]
 cases hc
theorem Qbu {k:List AV->List AObj->Prop} {H:List AObj}:∀ (suf:List COper) (tm:List AV),suf.all Q1v=true->Zc (EP P Gl) k suf tm H ->
  ∃ (tms:Nat->List AV) (vs:Nat->AV),tms 0=tm∧k (tms suf.length) H∧∀ (i:Nat) c,suf[i]? = some c->Q47 (tms i) c.op=some (vs i)∧tms (i+1)=Q0v (tms i) c.dst (vs i)
 | [],tm,_,h=>⟨fun _=>tm,fun _ => .any,rfl,h,fun i c h=>by simp at h⟩
 | c::suf,tm,hl,h=>by
  simp only [Cg,Lb] at hl
  have hg:c.guard=none:=by
   have:=hl.1;unfold Q1v at this;simp only [Lb,Cj] at this;exact this.1
  rw [Wt,hg] at h;obtain ⟨v,h1,h2⟩:=(Qho hl.1 tm H _).1 h;rw [Y2] at h2;obtain ⟨tms,vs,q1,q2,q3⟩:=Qbu suf (Q0v tm c.dst v) hl.2 h2;refine ⟨Qfi tm tms,Qfi v vs,rfl,q2,fun i d hd=>?_⟩
  cases i with
  | zero=>simp at hd;subst hd;exact ⟨h1,q1⟩
  | succ i=>exact q3 i d (by simpa using hd)
theorem Qgf {ops:Array Oper} {all:List COper} (hsz:ops.size=all.length) (hed:EdgeOk ops all) {q:Nat} (hq:q≤all.length) (hlight:(all.drop q).all Q1v=true)
  (hop:∀ (i:Nat) o c,ops[i]? = some o->all[i]? = some c->o.dst=c.dst∧Q1t P o.op c.op=true∧Z3 ops o.guard c.guard=true)
  (hslot:∀ (i:Nat) c t,all[i]? = some c->c.dst=some t->∀ (j:Nat) d,all[j]? = some d->i≠j->d.dst≠some t∧(t∈d.slots->d.bef.testBit i=true∨c.bef.testBit j=true))
  {θ0:Th} {H0:List AObj} {w0:World} {k:List AV->List AObj->Prop} (hG0:GlobOK Gl θ0 H0 w0) {Q:Exit->Act->World->Prop}
  (hQ:∀ tm' H' θ' a' w',k tm' H'->TmOk θ' (Qe θ' H') w' tm' a'->Hp θ' H' w'->EvoS θ0 H0 w0 θ' H' w'->Q .normal a' w')
  {tm0:List AV} {H:List AObj} (hev:Zc (EP P Gl) k (all.drop q) tm0 H) {θ:Th} {a:Act} {w:World} (hE:EvoS θ0 H0 w0 θ H w) (hT:TmOk θ (Qe θ H) w tm0 a) (hH:Hp θ H w)
  {fuel:Nat} {listed:Array Bool} (hls:listed.size=ops.size) (hli:∀ i,i<ops.size->(listed.getD i false=true↔i<q)) (hf:all.length - q≤fuel):wpAny P .any ops Q fuel listed a w:=by
 obtain ⟨tms,vs,q1,q2,q3⟩:=Qbu (P:=P) (Gl:=Gl) (all.drop q) tm0 hlight hev;have q3:∀ (i:Nat) c,q≤i->all[i]? = some c->Q47 (tms (i - q)) c.op=some (vs (i - q))∧tms (i - q+1)=Q0v (tms (i - q)) c.dst (vs (i - q)):=fun i c hi hc=>q3 (i - q) c (by rw [Ly,show q+(i - q)=i by omega];exact hc)
 have hlen:∀ j,j≤all.length - q->(tms j).length=tm0.length:=by
  intro j
  induction j with
  | zero=>intro _;rw [q1]
  | succ j ih=>
   intro hj
   have hlt:q+j<all.length:=by omega
   have:=(q3 (q+j) _ (by omega) (Lc hlt)).2;rw [show q+j - q=j by omega] at this;rw [this,Q93];exact ih (by omega)
 have hlb:∀ (i:Nat) c,q≤i->all[i]? = some c->Q1v c=true:=fun i c hi hc=>Lp.1 hlight c (Mk (i:=i - q) (by rw [Ly,show q+(i - q)=i by omega];exact hc))
 -- a slot stays as it is from its writer on
 have stay:∀ (t j j':Nat),j≤j'->j'≤all.length - q->(∀ (i:Nat) c,q+j≤i->i<q+j'->all[i]? = some c->c.dst≠some t)->(tms j')[t]? = (tms j)[t]? := by
  intro t j j' h1
  induction j' with
  | zero=>
   intro _ _;have:j=0:=by omega
   rw [this]
  | succ j' ih=>
   intro h2 h3
   by_cases hjj:j=j'+1
   ·rw [hjj]
   have hlt:q+j'<all.length:=by omega
   have hc:=Lc hlt;have e:=(q3 (q+j') _ (by omega) hc).2;rw [show q+j' - q=j' by omega] at e;have hne:=h3 (q+j') _ (by omega) (by omega) hc;rw [e,← ih (by omega) (by omega) (fun i c a b hc=>h3 i c a (by omega) hc)];unfold Q0v
   cases hd:(all[q+j']).dst with
   | none=>rfl
   | some d=>simp only [];rw [Lg (fun e=>hne (by rw [hd,e]))]
 have main:∀ (n:Nat) (fuel:Nat) (listed:Array Bool) (tm':List AV) (θ':Th) (a':Act) (w':World),listed.toList.count false=n->n≤fuel->listed.size=ops.size->(∀ i,i<q->listed.getD i false=true) ->
   (∀ (i:Nat) c b,all[i]? = some c->listed.getD i false=true->c.bef.testBit b=true->listed.getD b false=true) ->
   (∀ (t j:Nat),j≤all.length - q->(∀ (i:Nat) c,q≤i->all[i]? = some c->c.dst=some t->(i<q+j↔listed.getD i false=true))->tm'[t]? = (tms j)[t]?) ->
   tm'.length=tm0.length->EvoS θ0 H0 w0 θ' H w'->TmOk θ' (Qe θ' H) w' tm' a'->Hp θ' H w'->wpAny P .any ops Q fuel listed a' w':=by
  intro n
  induction n with
  | zero=>
   intro fuel listed tm' θ' a' w' hcnt hfu hls hlq hclo hinv htl' hE' hT' hH'
   have hall:∀ i,i<ops.size->listed.getD i false=true:=by
    intro i hi
    have hlt:i<listed.size:=by omega
    have hno:=List.count_eq_zero.1 hcnt
    cases hb:listed[i] with
    | true=>simp [Array.getD,hlt,hb]
    | false=>exact absurd (Mf.2 ⟨i,by simp [hlt,hb]⟩) hno
   have hr:Region.ready .any ops listed = []:=by
    cases hrr:Region.ready .any ops listed with
    | nil=>rfl
    | cons j rest=>
     have hj:j∈Region.ready .any ops listed:=by rw [hrr];exact .head _
     rw [mem_ready] at hj;obtain ⟨h0,o,ho,_⟩:=hj;have hlt:j<ops.size:=(Ls.1 ho).1;have:=hall j hlt
     have hlt2:j<listed.size:=by omega
     simp [Array.getD,hlt2] at h0 this;rw [h0] at this;cases this
   have e:tm'=tms (all.length - q):=by
    apply Mb;intro t;refine hinv t _ (Lj _) (fun i c hi hc _=>⟨fun _=>hall i (by rw [hsz];exact (La.1 hc).1),fun _=>by have:=(La.1 hc).1;omega⟩)
   subst e
   have hk:k (tms (all.length - q)) H:=by rw [← Nl];exact q2
   have hqq:=hQ _ H θ' a' w' hk hT' hH' hE'
   cases fuel with
   | zero=>exact ⟨hr,hqq⟩
   | succ f=>exact ⟨fun _=>hqq,fun j hj=>by rw [hr] at hj;cases hj⟩
  | succ n ih=>
   intro fuel listed tm' θ' a' w' hcnt hfu hls hlq hclo hinv htl' hE' hT' hH';obtain ⟨fuel,rfl⟩:∃ f,fuel=f+1:=⟨fuel - 1,by omega⟩;refine ⟨fun hr=>?_,fun j hj=>?_⟩
   ·exfalso
    have hall:∀ j,j<ops.size->listed.getD j false=true:=by
     intro j
     induction j using Nat.strongRecOn with
     | _ j ihj=>
      intro hjs;apply Ln;intro hn;have ho:=Lr hjs;have hc:=Lc (l:=all) (i:=j) (by omega)
      have:j∈Region.ready .any ops listed:=by
       rw [mem_ready];refine ⟨?_,_,ho,fun e he hb=>?_⟩
       ·have hlt:j<listed.size:=by omega
        simp [Array.getD,hlt] at hn ⊢;exact hn
       have hlt:=(hed j _ _ ho hc).1 e he hb;exact ihj e.on hlt (by omega)
      rw [hr] at this;cases this
    have hmem:false∈listed.toList:=Ms.1 (by omega);obtain ⟨i,hi⟩:=Mf.1 hmem
    have hlt:i<listed.size:=by have:=(La.1 hi).1;simpa using this
    have h1:=hall i (by omega);simp [hlt] at hi;simp [Array.getD,hlt,hi] at h1
   rw [mem_ready] at hj;obtain ⟨h0,o,ho,he⟩:=hj;have hjs:j<ops.size:=(Ls.1 ho).1
   have hlt:j<listed.size:=by omega
   have hget:listed[j]=false:=by simp [Array.getD,hlt] at h0;exact h0
   have hnl:¬ listed.getD j false=true:=by simp [Array.getD,hlt,hget]
   have hjq:q≤j:=Ln fun hn=>hnl (hlq j (by omega));have hc:=Lc (l:=all) (i:=j) (by omega);generalize all[j]'(by omega)=c at hc;have hb:∀ b,c.bef.testBit b=true->listed.getD b false=true:=fun b hb=>hed.closed (L:=fun i=>listed.getD i false=true) (j:=j) (fun i c b _ hc hL hb=>hclo i c b hc hL hb) ho hc he hb;obtain ⟨hd,hop1,hg⟩:=hop j o c ho hc;have hl:=hlb j c hjq hc;obtain ⟨e1,e2⟩:=q3 j c hjq hc
   have hv:Q47 tm' c.op=some (vs (j - q)):=by
    rw [← e1];refine Qiy hl (fun t ht=>?_);refine hinv t (j - q) (by omega) (fun i ci hi hci hdi=>?_);rw [show q+(j - q)=j by omega]
    by_cases hij:i=j
    ·subst hij;exact ⟨fun h=>by omega,fun h=>absurd h hnl⟩
    rcases (hslot i ci t hci hdi j c hc hij).2 ht with h1 | h1
    ·have:=hed.lt hsz j c i hc h1;exact ⟨fun _=>hb i h1,fun _=>this⟩
    have:=hed.lt hsz i ci j hci h1;exact ⟨fun h=>by omega,fun h=>absurd (hclo i ci j hci h h1) hnl⟩
   have hgn:c.guard=none:=by
    unfold Q1v at hl;simp only [Lb,Cj] at hl;exact hl.1
   have hgo:o.guard=none:=by
    rw [hgn] at hg
    cases hgo:o.guard with
    | none=>rfl
    | some jb=>rw [hgo] at hg;simp [Z3] at hg
   have hG:=hG0.evo hE'.toEvo;have hev1:X3 (EP P Gl) tm' H (fun v hp=>v=vs (j - q)∧hp=H) c.op:=(Qho hl tm' H _).2 ⟨_,hv,rfl,rfl⟩;unfold wpOp;rw [ho];simp only [show Region.wanted o (yielded ops a'.tmps)=true by simp [Region.wanted,hgo],Ak];refine .inl (Q08 hT' hH' hG hop1 hev1 (fun v cv H2 θ2 w2 hkv hrv hH2 hE2=>?_));obtain ⟨rfl,rfl⟩:=hkv
   have hT2:TmOk θ2 (Qe θ2 H2) w2 (Q0v tm' c.dst (vs (j - q))) (a'.put o.dst cv):=by
    rw [hd];have:=(hT'.mono hE2.toEvo).put c.dst hrv;unfold Q0v;exact this
   refine ih fuel _ _ θ2 _ w2 ?_ (by omega) (by simp [hls]) (fun i hi=>?_) (fun i ci b hci hL hbb=>?_) (fun t jj hjj hcond=>?_) (by rw [Q93];exact htl') (hE'.trans hE2) hT2 hH2
   ·rw [My,Bi (by simpa using hlt)]
    have e3:listed.toList[j]'(by simpa using hlt)=false:=by simpa using hget
    rw [e3];have r1:(if (false == false)=true then 1 else 0)=1:=rfl;have r2:(if (true == false)=true then 1 else 0)=0:=rfl;rw [r1,r2];omega
   ·rw [getD_set_ne false (by omega:j≠i)];exact hlq i hi
   ·by_cases hbj:b=j
    ·subst hbj;simp [Array.getD,hlt]
    rw [getD_set_ne false (fun e=>hbj e.symm)]
    by_cases hij:i=j
    ·subst hij;rw [hc] at hci;cases hci;exact hb b hbb
    rw [getD_set_ne false (fun e=>hij e.symm)] at hL;exact hclo i ci b hci hL hbb
   by_cases hdt:c.dst=some t
   ·have h1:=hcond j c hjq hc hdt
    have hset:(listed.setIfInBounds j true).getD j false=true:=by simp [Array.getD,hlt]
    have hjlt:=h1.2 hset;have e5:=stay t (j - q+1) jj (by omega) hjj (fun i ci a b hci=>(hslot j c t hc hdt i ci hci (by omega)).1);have e6:=hlen (j - q) (by omega);rw [e5,e2];unfold Q0v;rw [hdt];simp only [];rw [Nq,Nq,Af rfl,Af rfl,htl',e6]
   have e5:(Q0v tm' c.dst (vs (j - q)))[t]? = tm'[t]? := by
    unfold Q0v
    cases hdc:c.dst with
    | none=>rfl
    | some d=>simp only [];rw [Lg (fun e=>hdt (by rw [hdc,e]))]
   rw [e5];refine hinv t jj hjj (fun i ci hi hci hdi=>?_);have hij:j≠i:=fun e=>hdt (by subst e;rw [hc] at hci;cases hci;exact hdi);have:=hcond i ci hi hci hdi
   rwa [getD_set_ne false hij] at this
 refine main _ fuel listed tm0 θ a w rfl ?_ hls (fun i hi=>(hli i (by omega)).2 hi) (fun i c b hc hL hb=>?_) (fun t j hj hcond=>?_) rfl hE hT hH
 ·refine Nk ?_ hf
  have h1:(listed.toList.take q).count false=0:=by
   refine List.count_eq_zero.2 (fun hm=>?_);obtain ⟨i,hi⟩:=Mf.1 hm;rw [Lz] at hi;split at hi
   ·rename_i hiq;have h2:=(hli i (by omega)).2 hiq
    have hlt:i<listed.size:=by omega
    simp [hlt] at hi;simp [Array.getD,hlt,hi] at h2
   cases hi
  have h2:listed.toList.count false=(listed.toList.take q).count false+(listed.toList.drop q).count false:=by rw [← List.count_append,Ml]
  have h3:(listed.toList.drop q).count false≤(listed.toList.drop q).length:=List.count_le_length;rw [Nl] at h3
  have h4:listed.toList.length=all.length:=by simp [hls,hsz]
  omega
 ·have h1:=(hli i (by have:=(La.1 hc).1;omega)).1 hL;have h2:=hed.lt hsz i c b hc hb;exact (hli b (by omega)).2 (by omega)
 rw [stay t 0 j (by omega) hj (fun i c h1 h2 hc hd=>?_),q1];have h3:=(hcond i c (by omega) hc hd).1 h2;have h4:=(hli i (by have:=(La.1 hc).1;omega)).1 h3;omega
theorem Qax {k:List AV->List AObj->Prop}:∀ (a b:List COper) (tm:List AV) (H:List AObj),Zc (EP P Gl) k (a++b) tm H=Zc (EP P Gl) (fun tm H=>Zc (EP P Gl) k b tm H) a tm H
 | [],b,tm,H=>rfl
 | c::a,b,tm,H=>by
  rw [Nx,Wt,Wt]
  have e:(fun tm H=>Zc (EP P Gl) k (a++b) tm H)=fun tm H=>Zc (EP P Gl) (fun tm H=>Zc (EP P Gl) k b tm H) a tm H:=by
   funext tm H;exact Qax a b tm H
  have e2:∀ tm H,Zc (EP P Gl) k (a++b) tm H=Zc (EP P Gl) (fun tm H=>Zc (EP P Gl) k b tm H) a tm H:=Qax a b;simp only [e2]
theorem Qll (m:Nat) {pre:List COper} {c0:COper} {suf:List COper} {tm:List AV} {H:List AObj} {k:List AV->List AObj->Prop} (hm0:m≤suf.length) (htail:Qar pre.length ((c0::suf).take (m+1))=true) (hlight:((c0::suf).drop (m+1)).all Q1v=true) (hbits:((c0::suf).drop (m+1)).all (fun c=>Nat.beq (c.bef % 2 ^ (pre.length+(m+1))) (2 ^ (pre.length+(m+1)) - 1))=true)
  (h:Zk (EP P Gl) (Qv P Gl) (fun tm H=>Zc (EP P Gl) k (c0::suf) tm H) pre tm H 0 []):Q27 P Gl (pre++c0::suf) tm H k:=by
 intro id ops hk hm hst θ a w hT hH hG;obtain ⟨_,tms,Hs,vs,es,Rs,As,rfl,rfl,hkk,hpath,hap⟩:=Q24 pre tm H 0 [] h;obtain ⟨s1,s2⟩:=Vr ops.toList _ hk;simp only [Qgh,Lb] at hst
 have tol:∀ (i:Nat) o,ops[i]? = some o->ops.toList[i]? = some o:=fun i o h=>by simpa using h
 have hsz:ops.size=(pre++c0::suf).length:=by simpa using s1
 have hszn:ops.size=pre.length+(suf.length+1):=by rw [hsz];simp
 have inpre:∀ {i:Nat} {c:COper},pre[i]? = some c->i<pre.length∧(pre++c0::suf)[i]? = some c:=fun {i c} hc=>by
  have hlt:=(La.1 hc).1;exact ⟨hlt,by rw [Lh hlt];exact hc⟩
 have hed:EdgeOk ops (pre++c0::suf):=fun i o c ho hc=>by
  have:=Q09 ops.toList _ 0 hst.1 i o c (tol i o ho) hc;simpa using this
 have hop:∀ (i:Nat) o c,ops[i]? = some o->(pre++c0::suf)[i]? = some c->o.dst=c.dst∧Q1t P o.op c.op=true∧Z3 ops o.guard c.guard=true:=fun i o c ho hc=>s2 i o c (tol i o ho) hc
 have hbq:∀ (i:Nat) c,pre.length+(m+1)≤i->(pre++c0::suf)[i]? = some c->∀ b,b<pre.length+(m+1)->c.bef.testBit b=true:=fun i c hi hc b hb=>by
  rw [Lm (by omega)] at hc;have hmem:c∈(c0::suf).drop (m+1):=Mk (i:=i - pre.length - (m+1)) (by rw [Ly,show m+1+(i - pre.length - (m+1))=i - pre.length by omega];exact hc);have:=Na (Lp.1 hbits c hmem)
  have e:(c.bef % 2 ^ (pre.length+(m+1))).testBit b=true:=by rw [this,Lw];simpa using hb
  rw [Nat.testBit_mod_two_pow] at e;simp at e;exact e.2
 have hbef:∀ (i:Nat) c,pre.length≤i->(pre++c0::suf)[i]? = some c->∀ b,b<i->b<pre.length+(m+1)->c.bef.testBit b=true:=fun i c hi hc b hb hb2=>by
  by_cases hiq:pre.length+(m+1)≤i
  ·exact hbq i c hiq hc b hb2
  rw [Lm hi] at hc;exact Q7r _ _ htail (i - pre.length) c (by rw [Lz,Af (by omega)];exact hc) b (by omega)
 have p:Plan P Gl ops pre tms Hs vs es Rs As:=by
  refine { toPath:=hpath,size:=by omega,apart:=fun i i' c c' hlt hc hc'=>?_,op:=fun i o c ho hc=>hop i o c ho (inpre hc).2,edge:=fun i o c ho hc=>?_,slot:=fun i c t hc hd j d hj hne=>?_ }
  ·have:=(hap i c hc).2 i' c' hlt hc';simpa using this
  ·obtain ⟨q1,q2⟩:=hed i o c ho (inpre hc).2;refine ⟨q1,?_⟩;rw [← q2,Q3q (fun e he hb=>by have:=q1 e he hb;have:=(inpre hc).1;omega)]
  have:=Q0b _ 0 hst.2 i c t (inpre hc).2 hd j d (inpre hj).2 (by simpa using hne);simpa using this
 refine wp_region_any hm ?_
 let w1:World := { w with drawn:=w.drawn+1 }
 have e1:Evo θ (Hs 0) w θ (pad (Hs pre.length).length (Hs 0)) w1:=Q7m θ (Hs 0) w _ _;have h01:(Hs 0).length≤(Hs pre.length).length:=p.len' (Nh _) (Lj _)
 have main:∀ (fuel:Nat) (listed:Array Bool) (θ':Th) (tm':List AV) (H':List AObj) (a':Act) (w':World),listed.size=ops.size->listed.toList.count false≤fuel ->
   (∀ i,pre.length≤i->i<ops.size->listed.getD i false=false) ->
   InvD pre tms Hs es θ w1 (fun i=>listed.getD i false=true) θ' tm' H' a' w' ->
   wpAny P .any ops (Qp0 θ (Hs 0) w (fun ce tm' H'=>ce = .normal∧k tm' H')) fuel listed a' w':=by
  intro fuel
  induction fuel with
  | zero=>
   intro listed θ' tm' H' a' w' hls hcnt hun inv;exfalso
   have hlt:pre.length<listed.size:=by omega
   have hq:=hun pre.length (Lj _) (by omega)
   have:false∈listed.toList:=by
    rw [Mf];refine ⟨pre.length,?_⟩;simp [Array.getD,hlt] at hq;simp [hlt,hq]
   have:=Ms.2 this;omega
  | succ fuel ih=>
   intro listed θ' tm' H' a' w' hls hcnt hun inv
   by_cases hall:∀ i,i<pre.length->listed.getD i false=true
   ·-- all of the first part is done
    have hallI:∀ i,i<pre.length->(i<pre.length↔listed.getD i false=true):=fun i hi=>⟨fun _=>hall i hi,fun _=>hi⟩
    have e2:tm'=tms pre.length:=by
     apply Mb;intro t;exact inv.sl t pre.length (Lj _) (fun i c hc _=>hallI i (La.1 hc).1)
    have e3:H'=Hs pre.length:=by
     apply Mb;intro x;rw [inv.hp x pre.length (Lj _) (fun i hi _=>hallI i hi),Q6u]
    subst e2;subst e3
    have hcnt2:(pre++c0::suf).length - pre.length≤fuel+1:=by
     refine Nk ?_ hcnt;have hd:(listed.toList.drop pre.length).count false≤listed.toList.count false:=List.Sublist.count_le _ (List.drop_sublist _ _);refine Nk ?_ hd
     have:listed.toList.drop pre.length=List.replicate (suf.length+1) false:=by
      apply Mb;intro i;rw [Ly,Mi];split
      ·rename_i hi
       have hlt:pre.length+i<listed.size:=by omega
       have hq:=hun (pre.length+i) (by omega) (by omega);simp [Array.getD,hlt] at hq;simp [hlt,hq]
      rename_i hi
      have hge:¬ pre.length+i<listed.size:=by omega
      simp [hge]
     rw [this];simp
    have hdrop:(pre++c0::suf).drop (pre.length+(m+1))=(c0::suf).drop (m+1):=by rw [← Nm,Br]
    have hkk2:Zc (EP P Gl) (fun tm H=>Zc (EP P Gl) k ((c0::suf).drop (m+1)) tm H) ((c0::suf).take (m+1)) (tms pre.length) (Hs pre.length):=by
     rw [← Qax,Ml];exact hkk
    refine Qaf hsz hed (q:=pre.length+(m+1)) (by simp;omega) hbef hop (k:=fun tm H=>Zc (EP P Gl) k ((c0::suf).drop (m+1)) tm H) hG
     (fun tm4 H4 θ4 a4 w4 fuel4 listed4 hk4 ev4 t4 h4 ls4 li4 f4=>Qgf hsz hed (q:=pre.length+(m+1)) (by simp;omega) (by rw [hdrop];exact hlight) hop (fun i c t hc hd j d hj hne=>by
      have:=Q0b _ 0 hst.2 i c t hc hd j d hj (by simpa using hne)
      simpa using this) (k:=k) hG (fun tm3 H3 θ3 a3 w3 hk3 t3 h3 ev3=>⟨.normal,_,_,θ3,trivial,⟨rfl,hk3⟩,t3,h3,ev3⟩) (by rw [hdrop];exact hk4) ev4 t4 h4 ls4 li4 f4)
     ((c0::suf).take (m+1)) pre.length (Lj _) (by rw [Mq];simp;omega) ⟨(c0::suf).drop (m+1),by rw [Br,Ml]⟩ _ _ hkk2 θ' a' w'
     ⟨e1.trans inv.evo,h01,inv.old⟩ inv.hT inv.hH (fuel+1) listed hls (fun i hi=>⟨fun hl=>?_,fun hl=>hall i hl⟩) hcnt2
    apply Ln;intro hn;have:=hun i (by omega) hi;rw [this] at hl;cases hl
   refine ⟨fun hr=>?_,fun j hj=>?_⟩
   ·exfalso;apply hall;intro j
    induction j using Nat.strongRecOn with
    | _ j ihj=>
     intro hj;apply Ln;intro hn
     have hjs:j<ops.size:=by omega
     have ho:=Lr hjs;have hc:=Lc hj
     have:j∈Region.ready .any ops listed:=by
      rw [mem_ready];refine ⟨?_,_,ho,fun e he hb=>?_⟩
      ·have hlt:j<listed.size:=by omega
       simp [Array.getD,hlt] at hn ⊢;exact hn
      have hlt:=(p.edge j _ _ ho hc).1 e he hb;exact ihj e.on hlt (by omega)
     rw [hr] at this;cases this
   rw [mem_ready] at hj;obtain ⟨h0,o,ho,he⟩:=hj
   have hlt:j<listed.size:=by rw [hls];exact (Ls.1 ho).1
   have hget:listed[j]=false:=by simp [Array.getD,hlt] at h0;exact h0
   have hjp:j<pre.length:=by
    apply Ln;intro hn;have hcj:(pre++c0::suf)[j]? = some (pre++c0::suf)[j]:=Lc (by omega);apply hall;intro i hi;have hb:=hbef j _ (by omega) hcj i (by omega) (by omega)
    exact hed.closed (L:=fun i=>listed.getD i false=true) (j:=j) (fun i c b _ hc hL hb=>by
     by_cases hip:i<pre.length
     ·rw [Lh hip] at hc;exact inv.clo i c b hc hL hb
     exfalso;have hil:i<(pre++c0::suf).length:=(La.1 hc).1;have:=hun i (by omega) (by omega)
     rw [this] at hL;cases hL) ho hcj he hb
   refine inv.goes p ((hG.evo e1).evo inv.evo) hjp ho (by simp [Array.getD,hlt,hget]) he (fun θ2 tm2 H2 a2 w2 inv2=>ih _ θ2 tm2 H2 a2 w2 (by simp [hls]) ?_ ?_ ?_)
   ·rw [My,Bi (by simpa using hlt)];have hmem:false∈listed.toList:=Mf.2 ⟨j,by simp [hlt,hget]⟩;have:=Ms.2 hmem
    have e3:listed.toList[j]'(by simpa using hlt)=false:=by simpa using hget
    rw [e3];have q1:(if (false == false)=true then 1 else 0)=1:=rfl;have q2:(if (true == false)=true then 1 else 0)=0:=rfl;rw [q1,q2];omega
   ·intro i hi1 hi2;rw [getD_set_ne false (by omega:j≠i)];exact hun i hi1 hi2
   have e:(fun i=>listed.getD i false=true∨i=j)=(fun i=>(listed.setIfInBounds j true).getD i false=true):=by
    funext i
    apply propext
    by_cases hij:i=j
    ·subst hij;simp [Array.getD,hlt]
    simp only [hij,or_false];rw [getD_set_ne false (fun e=>hij e.symm)]
   rw [← e];exact inv2
 refine main ops.size _ θ (tms 0) (pad (Hs pre.length).length (Hs 0)) a w1 (by simp) (by simp) (fun i _ hi=>by simp [Array.getD,hi]) ?_;refine ⟨hT.mono e1,Qf7 hH _ _,.refl _ _ _,fun _ _=>rfl,Q7k h01,rfl,?_,?_,?_,?_⟩
 ·intro j c b _ h;exfalso;revert h;simp only [Array.getD]
  split<;>simp
 ·intro t j hj hcond
  have hno:∀ i c,0≤i->i<0+j->pre[i]? = some c->c.dst≠some t:=fun i c _ hlt hc hd=>by
   have:=(hcond i c hc hd).1 (by omega);simp [Array.getD] at this
  have:=p.tsame (i:=0) (t:=t) j (by omega) hno;rw [← this,Lv]
 ·intro x j hj hcond
  have hno:∀ i,0≤i->i<0+j->¬ Aff Hs es i x:=fun i _ hlt ha=>by
   have:=(hcond i (by omega) ha).1 (by omega);simp [Array.getD] at this
  have:=p.same (i:=0) (x:=x) (N:=(Hs pre.length).length) (Lj _) j (by omega) hno;rw [← this,Lv]
 intro j hj _ i _;have:=p.len' (Nh j) (by omega);exact hH.fresh _ (by omega)
theorem Q8s (p m:Nat) {cs:List COper} {c0:COper} {suf:List COper} {tm:List AV} {H:List AObj} {k:List AV->List AObj->Prop} (hs:cs.drop p=c0::suf) (hm0:Nat.ble m suf.length=true) (htail:Qar (cs.take p).length ((c0::suf).take (m+1))=true) (hlight:((c0::suf).drop (m+1)).all Q1v=true) (hbits:((c0::suf).drop (m+1)).all (fun c=>Nat.beq (c.bef % 2 ^ ((cs.take p).length+(m+1))) (2 ^ ((cs.take p).length+(m+1)) - 1))=true)
  (h:Zk (EP P Gl) (Qv P Gl) (fun tm H=>Zc (EP P Gl) k (c0::suf) tm H) (cs.take p) tm H 0 []):Q27 P Gl cs tm H k:=by
 have:=Qll m (Lt hm0) htail hlight hbits h;rw [← hs,Ml] at this;exact this
end
end
end Go.Av
