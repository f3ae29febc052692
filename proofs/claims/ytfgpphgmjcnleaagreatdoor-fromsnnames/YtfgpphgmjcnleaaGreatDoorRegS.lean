/- Part of FromsnNames: the law returns true; no condition. -/
import Derived.Test.YtfgpphgmjcnleaaGreatDoorRegE
import Derived.Test.YtfgpphgmjcnleaaGreatDoorAvDrawt
set_option linter.all false
namespace Go.Av
noncomputable section
def Qmj (R:Reg) (c:List UInt8) (id:Int):List UInt8×Int:=match Ya c 0 R with
 | none=>([],11)
 | some (_,C)=>match Un id 0 C.all with
  | none=>([],11)
  | some (_,v)=>(v.1,0)
def Qlw (R:Reg) (c:List UInt8) (id:Int):Bool:=match Ya c 0 R with
 | none=>false
 | some (_,C)=>match Un id 0 C.all with
  | none=>false
  | some (_,v)=>v.2
def rID (R:Reg) (c n:List UInt8):Int×Int:=match Ya c 0 R with
 | none=>(0,11)
 | some (_,C)=>match Gp n 0 C.ids with
  | none=>(0,11)
  | some (_,id)=>(id,0)
def Qts (C:Option RCl) (n:List UInt8):(Int×Bool×Int)×RCl:=match C with
 | none=>((1,true,0),⟨[(n,1)],[(1,n,false)],[],2⟩)
 | some C=>match Gp n 0 C.ids with
  | some (_,id)=>((id,false,0),C)
  | none=>match Q52 C.all 65536 C.next with
   | some (id,nx)=>if id=0 then ((0,false,12),⟨C.ids,C.all,[],nx⟩) else ((id,true,0),⟨C.ids ++ [(n,id)],C.all ++ [(id,n,false)],[],nx⟩)
   | none=>((0,false,12),C)
def Qtp (C:Option RCl) (n:List UInt8) (id:Int):Int×RCl:=match C with
 | none=>(0,⟨[(n,id)],[(id,n,true)],[],1⟩)
 | some C=>match Un id 0 C.all with
  | some (_,v)=>if v=(n,true) then (0,C) else (16,C)
  | none=>match Gp n 0 C.ids with
   | some _=>(16,C)
   | none=>(0,⟨C.ids ++ [(n,id)],C.all ++ [(id,n,true)],C.back,C.next⟩)
def Qsz (R:Reg) (c:List UInt8) (C:RCl):Reg:=match Ya c 0 R with
 | none=>R ++ [(c,C)]
 | some (i,_)=>R.set i (c,C)
def Qr8 (R:Reg) (c:List UInt8):Option RCl:=(Ya c 0 R).map (·.2)
def Qrb (ok:Bool) (R:Reg) (c n:List UInt8):(Int×Bool×Int)×Reg:=if ok then ((Qts (Qr8 R c) n).1,Qsz R c (Qts (Qr8 R c) n).2) else ((0,false,10),R)
def Qt6 (ok:Bool) (R:Reg) (c n:List UInt8) (id:Int):Int×Reg:=if ok then (if 1≤id∧id≤65534 then ((Qtp (Qr8 R c) n id).1,Qsz R c (Qtp (Qr8 R c) n id).2) else (2,R)) else (10,R)
def WC (C:RCl):Prop:=C.back = []∧1≤C.next∧C.next≤65535
def WR (R:Reg):Prop:=∀ q∈R,WC q.2
instance (R:Reg):Decidable (WR R):=by unfold WR WC;infer_instance
theorem Qbt (all:List (Int×List UInt8×Bool)):∀ (N:Nat) (s:Int),1≤s->s≤65535->65535 - s<N->∃ id nx,Q52 all N s=some (id,nx)∧1≤nx∧nx≤65535∧(id=0∨1≤id)
 | 0,s,_,_,h=>by omega
 | N+1,s,h1,h2,h3=>by
  simp only [Q52,Af h1]
  by_cases h4:s≤65534
  ·rw [Af h4]
   cases ha:Un s 0 all with
   | none=>exact ⟨s,s+1,rfl,by omega,by omega,.inr h1⟩
   | some v=>exact Qbt all N (s+1) (by omega) (by omega) (by omega)
  rw [Ae h4];exact ⟨0,s,rfl,h1,h2,.inl rfl⟩
theorem Qlq {c:List UInt8} {R:Reg} {i:Nat} {C:RCl} (h:Ya c 0 R=some (i,C)):(c,C)∈R:=Mk (Gh R 0 i C h).2
theorem Q6j {c:List UInt8} {R:Reg} {i:Nat} {C:RCl} (h:Ya c 0 R=some (i,C)):R.set i (c,C)=R:=by
 have e:=(Gh R 0 i C h).2;rw [Cr] at e;obtain ⟨hl,he⟩:=La.1 e;rw [← he,List.set_getElem_self]
end
end Go.Av
namespace Go.Av
noncomputable section
def Qra (a L:Nat):Bool:=Nat.beq (Nat.land a L) a
def Qoa (f:Nat->COper->Prop) (L:Nat):Nat->List COper->Prop
 | _,[]=>True
 | j,c::r=>(match !Nat.testBit L j&&Qra c.bef L with
  | true=>f j c
  | false=>True)∧Qoa f L (j+1) r
theorem Qkf {a L:Nat} (h:∀ b,a.testBit b=true->L.testBit b=true):Qra a L=true:=by
 unfold Qra;rw [Nu];apply Ca;intro b;show (a &&& L).testBit b=_;rw [Nat.testBit_and]
 cases ha:a.testBit b with
 | false=>rfl
 | true=>rw [h b ha];rfl
theorem Qec {f:Nat->COper->Prop} {L:Nat}:∀ (cs:List COper) (j:Nat),Qoa f L j cs->∀ (i:Nat) c,cs[i]? = some c->L.testBit (j+i)=false->(∀ b,c.bef.testBit b=true->L.testBit b=true)->f (j+i) c
 | [],j,_,i,c,hc,_,_=>by simp at hc
 | d::r,j,h,0,c,hc,hl,hb=>by
  simp at hc;subst hc;have h1:=h.1;rw [Nc] at hl ⊢;rw [hl,Qkf hb] at h1;exact h1
 | d::r,j,h,i+1,c,hc,hl,hb=>by
  have:=Qec r (j+1) h.2 i c (by simpa using hc) (by rw [← hl];congr 1;omega) hb;rw [show j+(i+1)=j+1+i by omega];exact this
section
variable {P:Program} {Gl:Nat->Option (List PV)}
def Q42 (P:Program) (Gl:Nat->Option (List PV)) (k:List AV->List AObj->Prop) (cs:List COper):Nat->Nat->List AV->List AObj->Prop
 | 0,_,tm,H=>k tm H
 | n+1,L,tm,H=>Qoa (fun j c=>Zc (EP P Gl) (fun tm H=>Q42 P Gl k cs n (Nat.lor L (2 ^ j)) tm H) [c] tm H) L 0 cs
theorem Q5t (L j i:Nat):(Nat.lor L (2 ^ j)).testBit i=(L.testBit i||decide (j=i)):=by
 show (L ||| 2 ^ j).testBit i=_;rw [Cu,Cd]
theorem Q6o {ops:Array Oper} {all:List COper} (hsz:ops.size=all.length) (hed:EdgeOk ops all)
  (hop:∀ (i:Nat) o c,ops[i]? = some o->all[i]? = some c->o.dst=c.dst∧Q1t P o.op c.op=true∧Z3 ops o.guard c.guard=true)
  {θ0:Th} {H0:List AObj} {w0:World} {k:List AV->List AObj->Prop} (hG0:GlobOK Gl θ0 H0 w0) {Q:Exit->Act->World->Prop}
  (hQ:∀ tm' H' θ' a' w',k tm' H'->TmOk θ' (Qe θ' H') w' tm' a'->Hp θ' H' w'->EvoS θ0 H0 w0 θ' H' w'->Q .normal a' w') :
  ∀ (n L:Nat) tm H,Q42 P Gl k all n L tm H->∀ θ a w,EvoS θ0 H0 w0 θ H w->TmOk θ (Qe θ H) w tm a->Hp θ H w ->
  ∀ (fuel:Nat) (listed:Array Bool),listed.size=ops.size->(∀ i,i<ops.size->(listed.getD i false=true↔L.testBit i=true))->(∀ (i:Nat) c b,all[i]? = some c->L.testBit i=true->c.bef.testBit b=true->L.testBit b=true) ->
   listed.toList.count false=n->n≤fuel->wpAny P .any ops Q fuel listed a w
 | 0,L,tm,H,h,θ,a,w,hE,hT,hH,fuel,listed,hls,hli,hcl,hcn,hf=>by
  have hr:Region.ready .any ops listed = []:=by
   cases hrr:Region.ready .any ops listed with
   | nil=>rfl
   | cons j rest=>
    have hj:j∈Region.ready .any ops listed:=by rw [hrr];exact .head _
    rw [mem_ready] at hj;obtain ⟨h0,o,ho,_⟩:=hj;have hlt:j<ops.size:=(Ls.1 ho).1
    have hlt2:j<listed.size:=by omega
    have hmem:false∈listed.toList:=Mf.2 ⟨j,by simpa [Array.getD,hlt2] using h0⟩;have:=Ms.2 hmem;omega
  have hq:Q .normal a w:=hQ tm H θ a w h hT hH hE
  cases fuel with
  | zero=>exact ⟨hr,hq⟩
  | succ f=>exact ⟨fun _=>hq,fun j hj=>by rw [hr] at hj;cases hj⟩
 | n+1,L,tm,H,h,θ,a,w,hE,hT,hH,fuel,listed,hls,hli,hcl,hcn,hf=>by
  match fuel,hf with
  | fuel+1,hf=>
  have hG:=hG0.evo hE.toEvo;refine ⟨fun hr=>?_,fun m hj=>?_⟩
  ·exfalso
   -- the first that is not listed is ready
   have hmem:false∈listed.toList:=Ms.1 (by omega);obtain ⟨m0,hm0⟩:=Mf.1 hmem
   have hm0l:m0<listed.size:=by simpa using (La.1 hm0).1
   have ex:∃ m,m<ops.size∧listed.getD m false=false:=⟨m0,by omega,by simp at hm0;simp [Array.getD,hm0l];simpa [hm0l] using hm0⟩
   have least:∀ b,(∃ m,m<b∧m<ops.size∧listed.getD m false=false)->∃ m,m<ops.size∧listed.getD m false=false∧∀ i,i<m->listed.getD i false=true:=by
    intro b
    induction b with
    | zero=>rintro ⟨m,hm,_⟩;omega
    | succ b ih=>
     rintro ⟨m,hm,h1,h2⟩
     by_cases hs:∃ m,m<b∧m<ops.size∧listed.getD m false=false
     ·exact ih hs
     refine ⟨m,h1,h2,fun i hi=>?_⟩
     cases hx:listed.getD i false with
     | true=>rfl
     | false=>exact absurd ⟨i,by omega,by omega,hx⟩ hs
   obtain ⟨m,hm1,hm2,hm3⟩:=least ops.size (by obtain ⟨m,h1,h2⟩:=ex;exact ⟨m,h1,h1,h2⟩);have hom:ops[m]? = some ops[m]:=Lr (by omega);have hcm:all[m]? = some all[m]:=Lc (by omega)
   have mready:m∈Region.ready .any ops listed:=by
    rw [mem_ready]
    have hlm:m<listed.size:=by omega
    refine ⟨by simpa [Array.getD,hlm] using hm2,_,hom,fun e he hb=>?_⟩;exact hm3 _ ((hed m _ _ hom hcm).1 e he hb)
   rw [hr] at mready;cases mready
  have hj':=hj;rw [mem_ready] at hj';obtain ⟨h0,o,ho,he⟩:=hj';have hlt:m<ops.size:=(Ls.1 ho).1
  have hlm:m<listed.size:=by omega
  have hcm:all[m]? = some all[m]:=Lc (by omega)
  have hnl:L.testBit m=false:=by
   cases hx:L.testBit m with
   | false=>rfl
   | true=>
    have:=(hli m hlt).2 hx;simp [Array.getD,hlm] at h0 this;rw [h0] at this;cases this
  have hb:∀ b,(all[m]).bef.testBit b=true->L.testBit b=true:=fun b hb=>by
   have:=hed.closed (L:=fun i=>i<ops.size∧listed.getD i false=true) (j:=m) (fun i c b hi hc hL hb=>by
     have h1:=(hli i hL.1).1 hL.2;have h2:=hcl i c b hc h1 hb;have h3:=hed.lt hsz i c b hc hb
     exact ⟨by omega,(hli b (by omega)).2 h2⟩) ho hcm (fun e he1 he2=>by
     have h1:=he e he1 he2;have h2:=(hed m o _ ho hcm).1 e he1 he2
     exact ⟨by omega,h1⟩) hb
   exact (hli b this.1).1 this.2
  have hev:=Qec all 0 h m _ hcm (by rw [Lv];exact hnl) hb;rw [Lv] at hev;generalize hcg:all[m]=c at hcm hev hb;obtain ⟨hd,hop1,hg⟩:=hop m _ c ho hcm
  have lnext:∀ i,i<ops.size->((listed.setIfInBounds m true).getD i false=true↔(Nat.lor L (2 ^ m)).testBit i=true):=by
   intro i hi;rw [Q5t]
   by_cases him:i=m
   ·subst him;simp [Array.getD,hlm]
   rw [getD_set_ne false (fun e=>him e.symm),hli i hi];have:decide (m=i)=false:=Ab (fun e=>him e.symm);rw [this,Ch]
  have cnext:∀ (i:Nat) c b,all[i]? = some c->(Nat.lor L (2 ^ m)).testBit i=true->c.bef.testBit b=true->(Nat.lor L (2 ^ m)).testBit b=true:=by
   intro i c' b hc' hi hb';rw [Q5t] at hi ⊢
   by_cases him:m=i
   ·subst him;rw [hcm] at hc';cases hc';rw [hb b hb'];rfl
   rw [Ab him,Ch] at hi;rw [hcl i c' b hc' hi hb'];rfl
  have nnext:(listed.setIfInBounds m true).toList.count false=n:=by
   have hget:listed.toList[m]'(by simpa using hlm)=false:=by simpa [Array.getD,hlm] using h0
   rw [My,Bi (by simpa using hlm),hget];have q1:(if (false == false)=true then 1 else 0)=1:=rfl;have q2:(if (true == false)=true then 1 else 0)=0:=rfl;rw [q1,q2];omega
  have run:∀ tm1,TmOk θ (Qe θ H) w tm1 a->X3 (EP P Gl) tm1 H (fun v hp=>put tm1 c.dst v fun tm=>Q42 P Gl k all n (Nat.lor L (2 ^ m)) tm hp) c.op->Region.wanted o (yielded ops a.tmps)=true ->
    wpOp P ops Q m (wpAny P .any ops Q fuel (listed.setIfInBounds m true)) a w:=by
   intro tm1 hT1 hev hw;unfold wpOp;rw [ho];simp only [hw,Ak];refine .inl (Q08 hT1 hH hG hop1 hev (fun v cv H' θ' w' hkv hrv hH' hE'=>?_));rw [Y2] at hkv;exact Q6o hsz hed hop hG0 hQ n _ _ H' hkv θ' _ w' (hE.trans hE') (by rw [hd];exact (hT1.mono hE'.toEvo).put c.dst hrv) hH' fuel _ (by simp [hls]) lnext cnext nnext (by omega)
  have skip:∀ tm1,TmOk θ (Qe θ H) w tm1 a->(put tm1 c.dst Zd fun tm=>Q42 P Gl k all n (Nat.lor L (2 ^ m)) tm H)->Region.wanted o (yielded ops a.tmps)=false ->
    wpOp P ops Q m (wpAny P .any ops Q fuel (listed.setIfInBounds m true)) a w:=by
   intro tm1 hT1 hev hw;unfold wpOp;rw [ho];simp only [hw,Lu,Al];rw [Y2] at hev;exact Q6o hsz hed hop hG0 hQ n _ _ H hev θ _ w hE (by rw [hd];exact hT1.put c.dst J0) hH fuel _ (by simp [hls]) lnext cnext nnext (by omega)
  simp only [Wt] at hev
  cases hgc:c.guard with
  | none=>
   rw [hgc] at hev hg
   cases hgo:o.guard with
   | some jb=>rw [hgo] at hg;simp [Z3] at hg
   | none=>exact run tm hT hev (by simp [Region.wanted,hgo])
  | some tb=>
   obtain ⟨t,want⟩:=tb;rw [hgc] at hev hg
   cases hgo:o.guard with
   | none=>rw [hgo] at hg;simp [Z3] at hg
   | some jb=>
    obtain ⟨j2,b⟩:=jb;rw [hgo] at hg;simp only [Z3,Lb,Aj] at hg;obtain ⟨rfl,hj2⟩:=hg;simp only [Wl] at hev;generalize hvt:tm.getD t .any=vt at hev;split at hev
    ·rename_i x;obtain ⟨cv,e1,e2,e3⟩:=G3 hT hvt (by simp);have:=Q1h e3;subst this;have hk1:=hT.known e2
     have hy':yielded ops a.tmps j2=some x:=by unfold yielded;rw [hj2];simp only [Lq,e1]
     simp only [Gt,Wh] at hev;cases x<;>cases b<;>simp only [Ak,Al,Lu] at hev
     ·exact run _ hk1 hev (by simp [Region.wanted,hgo,hy'])
     ·exact skip _ hk1 hev (by simp [Region.wanted,hgo,hy'])
     ·exact skip _ hk1 hev (by simp [Region.wanted,hgo,hy'])
     exact run _ hk1 hev (by simp [Region.wanted,hgo,hy'])
    ·obtain ⟨cv,e1,e2,e3⟩:=G3 hT hvt (by simp)
     have hcv:cv = .tuple #[]:=by
      cases e3 with
      | p _ _ hp=>
       cases hp with
       | tuple _ C hn hv=>
        have:C = #[]:=by apply Mh;simpa using hn
        rw [this]
     have hy':yielded ops a.tmps j2=none:=by unfold yielded;rw [hj2];simp only [Lq,e1,hcv]
     exact skip _ hT hev (by simp [Region.wanted,hgo,hy'])
    exact hev.elim
theorem Qhi {cs:List COper} {tm:List AV} {H:List AObj} {k:List AV->List AObj->Prop} (n:Nat) (hn:cs.length=n) (h:Q42 P Gl k cs n 0 tm H):Q27 P Gl cs tm H k:=by
 subst hn;intro id ops hk hm hst θ a w hT hH hG;obtain ⟨s1,s2⟩:=Vr ops.toList _ hk;simp only [Qgh,Lb] at hst
 have tol:∀ (i:Nat) o,ops[i]? = some o->ops.toList[i]? = some o:=fun i o h=>by simpa using h
 have hsz:ops.size=cs.length:=by simpa using s1
 have hed:EdgeOk ops cs:=fun i o c ho hc=>by
  have:=Q09 ops.toList _ 0 hst.1 i o c (tol i o ho) hc;simpa using this
 have hop:∀ (i:Nat) o c,ops[i]? = some o->cs[i]? = some c->o.dst=c.dst∧Q1t P o.op c.op=true∧Z3 ops o.guard c.guard=true:=fun i o c ho hc=>s2 i o c (tol i o ho) hc;refine wp_region_any hm ?_
 let w1:World := { w with drawn:=w.drawn+1 }
 have e1:Evo θ H w θ (pad H.length H) w1:=Q7m θ H w _ _;have hp1:=Qf7 hH H.length (w.drawn+1);rw [Q6u] at e1 hp1;refine Q6o hsz hed hop hG (k:=k) (fun tm' H' θ' a' w' hk' hT' hH' hE'=>?_) cs.length 0 tm H h θ a w1 ⟨e1,Lj _,fun b hb=>rfl⟩ (hT.mono e1) hp1 ops.size (Array.replicate ops.size false) (by simp) (fun i hi=>by simp [Array.getD,hi]) (fun i c b _ hi=>by simp at hi) (by simp [hsz]) (by omega);exact ⟨.normal,tm',H',θ',trivial,⟨rfl,hk'⟩,hT',hH',hE'⟩
end
end
end Go.Av
