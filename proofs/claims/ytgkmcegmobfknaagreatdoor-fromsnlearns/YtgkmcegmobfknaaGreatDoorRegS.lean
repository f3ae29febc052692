/- Part of FromsnLearns: the law returns true; no condition. -/
import Derived.Test.YtgkmcegmobfknaaGreatDoorRegE
import Derived.Test.YtgkmcegmobfknaaGreatDoorAvDrawt
set_option linter.all false
namespace Go.Av
noncomputable section
def Q4p (R:Reg) (c:List UInt8) (id:Int):List UInt8×Int:=match Yx c 0 R with
 | none=>([],11)
 | some (_,C)=>match Js id 0 C.all with
  | none=>([],11)
  | some (_,v)=>(v.1,0)
def Q55 (R:Reg) (c:List UInt8) (id:Int):Bool:=match Yx c 0 R with
 | none=>false
 | some (_,C)=>match Js id 0 C.all with
  | none=>false
  | some (_,v)=>v.2
def rID (R:Reg) (c n:List UInt8):Int×Int:=match Yx c 0 R with
 | none=>(0,11)
 | some (_,C)=>match Gk n 0 C.ids with
  | none=>(0,11)
  | some (_,id)=>(id,0)
def Qdu (C:Option RCl) (n:List UInt8):(Int×Bool×Int)×RCl:=match C with
 | none=>((1,true,0),⟨[(n,1)],[(1,n,false)],[],2⟩)
 | some C=>match Gk n 0 C.ids with
  | some (_,id)=>((id,false,0),C)
  | none=>match Q2b C.all 65536 C.next with
   | some (id,nx)=>if id=0 then ((0,false,12),⟨C.ids,C.all,[],nx⟩) else ((id,true,0),⟨C.ids ++ [(n,id)],C.all ++ [(id,n,false)],[],nx⟩)
   | none=>((0,false,12),C)
def Qft (C:Option RCl) (n:List UInt8) (id:Int):Int×RCl:=match C with
 | none=>(0,⟨[(n,id)],[(id,n,true)],[],1⟩)
 | some C=>match Js id 0 C.all with
  | some (_,v)=>if v=(n,true) then (0,C) else (16,C)
  | none=>match Gk n 0 C.ids with
   | some _=>(16,C)
   | none=>(0,⟨C.ids ++ [(n,id)],C.all ++ [(id,n,true)],C.back,C.next⟩)
def Qpz (R:Reg) (c:List UInt8) (C:RCl):Reg:=match Yx c 0 R with
 | none=>R ++ [(c,C)]
 | some (i,_)=>R.set i (c,C)
def Q5u (R:Reg) (c:List UInt8):Option RCl:=(Yx c 0 R).map (·.2)
def Qe8 (ok:Bool) (R:Reg) (c n:List UInt8):(Int×Bool×Int)×Reg:=if ok then ((Qdu (Q5u R c) n).1,Qpz R c (Qdu (Q5u R c) n).2) else ((0,false,10),R)
def Qr1 (ok:Bool) (R:Reg) (c n:List UInt8) (id:Int):Int×Reg:=if ok then (if 1≤id∧id≤65534 then ((Qft (Q5u R c) n id).1,Qpz R c (Qft (Q5u R c) n id).2) else (2,R)) else (10,R)
def WC (C:RCl):Prop:=C.back = []∧1≤C.next∧C.next≤65535
def WR (R:Reg):Prop:=∀ q∈R,WC q.2
instance (R:Reg):Decidable (WR R):=by unfold WR WC;infer_instance
theorem Q2z (all:List (Int×List UInt8×Bool)):∀ (N:Nat) (s:Int),1≤s->s≤65535->65535 - s<N->∃ id nx,Q2b all N s=some (id,nx)∧1≤nx∧nx≤65535∧(id=0∨1≤id)
 | 0,s,_,_,h=>by omega
 | N+1,s,h1,h2,h3=>by
  simp only [Q2b,Af h1]
  by_cases h4:s≤65534
  ·rw [Af h4]
   cases ha:Js s 0 all with
   | none=>exact ⟨s,s+1,rfl,by omega,by omega,.inr h1⟩
   | some v=>exact Q2z all N (s+1) (by omega) (by omega) (by omega)
  rw [Ae h4];exact ⟨0,s,rfl,h1,h2,.inl rfl⟩
theorem Qbf {c:List UInt8} {R:Reg} {i:Nat} {C:RCl} (h:Yx c 0 R=some (i,C)):(c,C)∈R:=Mk (Q0g R 0 i C h).2
theorem Q7s {c:List UInt8} {R:Reg} {i:Nat} {C:RCl} (h:Yx c 0 R=some (i,C)):R.set i (c,C)=R:=by
 have e:=(Q0g R 0 i C h).2;rw [No] at e;obtain ⟨hl,he⟩:=La.1 e;rw [← he,List.set_getElem_self]
theorem Qhe {c d:List UInt8} {C:RCl}:∀ (R:Reg) (n:Nat),Yx c n R=none->Yx d n (R ++ [(c,C)])=if d=c then some (n+R.length,C) else Yx d n R
 | [],n,_=>by simp [Yx]
 | (k,D)::R,n,h=>by
  simp only [Yx] at h;split at h
  ·cases h
  rename_i hk;simp only [Nx,Yx];rw [Qhe R (n+1) h]
  by_cases hd:d=k
  ·subst hd;rw [Af rfl,Ae (fun e=>hk e.symm),Af rfl]
  rw [Ae hd,Ae hd]
  by_cases hc:d=c
  ·rw [Af hc,Af hc,Ma];congr 2;omega
  rw [Ae hc,Ae hc]
theorem Qbs {c d:List UInt8} {C D:RCl}:∀ (R:Reg) (n i:Nat),Yx c n R=some (i,D)->Yx d n (R.set (i - n) (c,C))=if d=c then some (i,C) else Yx d n R
 | [],n,i,h=>by cases h
 | (k,E)::R,n,i,h=>by
  simp only [Yx] at h;split at h
  ·rename_i hk;cases h;subst hk;rw [Cb,List.set_cons_zero];simp only [Yx]
   by_cases hd:d=c
   ·rw [Af hd,Af hd]
   rw [Ae hd,Ae hd,Ae hd]
  rename_i hk;have hle:=(Q0g R (n+1) i D h).1;rw [show i - n=(i - (n+1))+1 by omega,List.set_cons_succ];simp only [Yx];rw [Qbs R (n+1) i h]
  by_cases hd:d=k
  ·subst hd;rw [Af rfl,Ae (fun e=>hk e.symm),Af rfl]
  rw [Ae hd,Ae hd]
theorem Qrn (R:Reg) (c d:List UInt8) (C:RCl):Q5u (Qpz R c C) d=if d=c then some C else Q5u R d:=by
 unfold Q5u Qpz
 cases h:Yx c 0 R with
 | none=>
  show (Yx d 0 (R ++ [(c,C)])).map _=_;rw [Qhe R 0 h]
  by_cases hd:d=c
  ·rw [Af hd,Af hd];rfl
  rw [Ae hd,Ae hd]
 | some q=>
  obtain ⟨i,D⟩:=q;show (Yx d 0 (R.set i (c,C))).map _=_;have:=Qbs (d:=d) (C:=C) R 0 i h;rw [No] at this;rw [this]
  by_cases hd:d=c
  ·rw [Af hd,Af hd];rfl
  rw [Ae hd,Ae hd]
theorem Qsy (ok:Bool) (R:Reg) (c n d:List UInt8):Q5u (Qe8 ok R c n).2 d=if ok=true∧d=c then some (Qdu (Q5u R c) n).2 else Q5u R d:=by
 unfold Qe8
 cases ok with
 | false=>simp
 | true=>
  show Q5u (Qpz R c _) d=_;rw [Qrn]
  by_cases hd:d=c<;>simp [hd]
theorem Qu8 {R:Reg} {c:List UInt8} {C:RCl} (h:WR R) (hc:WC C):WR (Qpz R c C):=by
 unfold Qpz;intro q hq
 cases hf:Yx c 0 R with
 | none=>
  rw [hf] at hq
  rcases Mh.1 hq with h1 | h1
  ·exact h q h1
  simp at h1;subst h1;exact hc
 | some x=>
  rw [hf] at hq
  rcases Bk hq with h1 | h1
  ·exact h q h1
  subst h1;exact hc
theorem Qv1 {R:Reg} {c:List UInt8} {C:RCl} (h:WR R) (hc:Q5u R c=some C):WC C:=by
 unfold Q5u at hc
 cases hf:Yx c 0 R with
 | none=>rw [hf] at hc;cases hc
 | some x=>
  rw [hf] at hc;obtain ⟨i,D⟩:=x;cases hc;exact h _ (Qbf hf)
theorem Qzm {C:Option RCl} (h:∀ D,C=some D->WC D) (n:List UInt8):WC (Qdu C n).2:=by
 cases C with
 | none=>exact ⟨rfl,by simp [Qdu,Qft],by simp [Qdu,Qft]⟩
 | some C=>
  obtain ⟨h1,h2,h3⟩:=h C rfl;unfold Qdu;simp only []
  cases hn:Gk n 0 C.ids with
  | some q=>exact ⟨h1,h2,h3⟩
  | none=>
   obtain ⟨id,nx,hl,h4,h5,_⟩:=Q2z C.all 65536 C.next h2 h3 (by omega)
   simp only [hl];split
   ·exact ⟨rfl,h4,h5⟩
   exact ⟨rfl,h4,h5⟩
theorem Qym {C:Option RCl} (h:∀ D,C=some D->WC D) (n:List UInt8) (id:Int):WC (Qft C n id).2:=by
 cases C with
 | none=>exact ⟨rfl,by simp [Qdu,Qft],by simp [Qdu,Qft]⟩
 | some C=>
  have hc:=h C rfl;unfold Qft;simp only []
  cases ha:Js id 0 C.all with
  | some q=>simp only [];split<;>exact hc
  | none=>
   simp only []
   cases hn:Gk n 0 C.ids with
   | some q=>exact hc
   | none=>exact hc
theorem Z0l {R:Reg} (h:WR R) (ok:Bool) (c n:List UInt8):WR (Qe8 ok R c n).2:=by
 unfold Qe8;split
 ·exact Qu8 h (Qzm (fun D hD=>Qv1 h hD) n)
 exact h
theorem Qzl {R:Reg} (h:WR R) (ok:Bool) (c n:List UInt8) (id:Int):WR (Qr1 ok R c n id).2:=by
 unfold Qr1;split
 ·split
  ·exact Qu8 h (Qym (fun D hD=>Qv1 h hD) n id)
  exact h
 exact h
def Qcc (ok:List UInt8->Bool) (R:Reg) (t:List UInt8×List UInt8×Int):Reg:=if t.2.2=0 then (Qe8 (ok t.2.1) R t.1 t.2.1).2 else (Qr1 (ok t.2.1) R t.1 t.2.1 t.2.2).2
def Qi1 (ok:List UInt8->Bool) (l:List (List UInt8×List UInt8×Int)):Reg:=l.foldl (Qcc ok) []
theorem Qvw (ok:List UInt8->Bool) {R:Reg} (h:WR R) (t:List UInt8×List UInt8×Int):WR (Qcc ok R t):=by
 unfold Qcc;split
 ·exact Z0l h _ _ _
 exact Qzl h _ _ _ _
theorem Qlc (ok:List UInt8->Bool):∀ (l:List (List UInt8×List UInt8×Int)) (R:Reg),WR R->WR (l.foldl (Qcc ok) R)
 | [],_,h=>h
 | t::l,R,h=>Qlc ok l _ (Qvw ok h t)
theorem Qxu (ok:List UInt8->Bool) (l:List (List UInt8×List UInt8×Int)):WR (Qi1 ok l):=Qlc ok l [] (fun q h=>by cases h)
end
end Go.Av
namespace Go.Av
noncomputable section
def Z1g (a L:Nat):Bool:=Nat.beq (Nat.land a L) a
def Qwz (f:Nat->COper->Prop) (L:Nat):Nat->List COper->Prop
 | _,[]=>True
 | j,c::r=>(match !Nat.testBit L j&&Z1g c.bef L with
  | true=>f j c
  | false=>True)∧Qwz f L (j+1) r
theorem Qoa {a L:Nat} (h:∀ b,a.testBit b=true->L.testBit b=true):Z1g a L=true:=by
 unfold Z1g;rw [Bv];apply Nat.eq_of_testBit_eq;intro b;show (a &&& L).testBit b=_;rw [Nat.testBit_and]
 cases ha:a.testBit b with
 | false=>rfl
 | true=>rw [h b ha];rfl
theorem Qgk {f:Nat->COper->Prop} {L:Nat}:∀ (cs:List COper) (j:Nat),Qwz f L j cs->∀ (i:Nat) c,cs[i]? = some c->L.testBit (j+i)=false->(∀ b,c.bef.testBit b=true->L.testBit b=true)->f (j+i) c
 | [],j,_,i,c,hc,_,_=>by simp at hc
 | d::r,j,h,0,c,hc,hl,hb=>by
  simp at hc;subst hc;have h1:=h.1;rw [Nn] at hl ⊢;rw [hl,Qoa hb] at h1;exact h1
 | d::r,j,h,i+1,c,hc,hl,hb=>by
  have:=Qgk r (j+1) h.2 i c (by simpa using hc) (by rw [← hl];congr 1;omega) hb;rw [show j+(i+1)=j+1+i by omega];exact this
section
variable {P:Program} {Gl:Nat->Option (List PV)}
def Qbc (P:Program) (Gl:Nat->Option (List PV)) (k:List AV->List AObj->Prop) (cs:List COper):Nat->Nat->List AV->List AObj->Prop
 | 0,_,tm,H=>k tm H
 | n+1,L,tm,H=>Qwz (fun j c=>Vr (EP P Gl) (fun tm H=>Qbc P Gl k cs n (Nat.lor L (2 ^ j)) tm H) [c] tm H) L 0 cs
theorem Qof (L j i:Nat):(Nat.lor L (2 ^ j)).testBit i=(L.testBit i||decide (j=i)):=by
 show (L ||| 2 ^ j).testBit i=_;rw [Ei,Di]
theorem Qan {ops:Array Oper} {all:List COper} (hsz:ops.size=all.length) (hed:EdgeOk ops all)
  (hop:∀ (i:Nat) o c,ops[i]? = some o->all[i]? = some c->o.dst=c.dst∧Q3h P o.op c.op=true∧Yy ops o.guard c.guard=true)
  {θ0:Th} {H0:List AObj} {w0:World} {k:List AV->List AObj->Prop} (hG0:GlobOK Gl θ0 H0 w0) {Q:Exit->Act->World->Prop}
  (hQ:∀ tm' H' θ' a' w',k tm' H'->TmOk θ' (Qn θ' H') w' tm' a'->Hp θ' H' w'->EvoS θ0 H0 w0 θ' H' w'->Q .normal a' w') :
  ∀ (n L:Nat) tm H,Qbc P Gl k all n L tm H->∀ θ a w,EvoS θ0 H0 w0 θ H w->TmOk θ (Qn θ H) w tm a->Hp θ H w ->
  ∀ (fuel:Nat) (listed:Array Bool),listed.size=ops.size->(∀ i,i<ops.size->(listed.getD i false=true↔L.testBit i=true))->(∀ (i:Nat) c b,all[i]? = some c->L.testBit i=true->c.bef.testBit b=true->L.testBit b=true) ->
   listed.toList.count false=n->n≤fuel->wpAny P .any ops Q fuel listed a w
 | 0,L,tm,H,h,θ,a,w,hE,hT,hH,fuel,listed,hls,hli,hcl,hcn,hf=>by
  have hr:Region.ready .any ops listed = []:=by
   cases hrr:Region.ready .any ops listed with
   | nil=>rfl
   | cons j rest=>
    have hj:j∈Region.ready .any ops listed:=by rw [hrr];exact .head _
    rw [mem_ready] at hj;obtain ⟨h0,o,ho,_⟩:=hj;have hlt:j<ops.size:=(Lz.1 ho).1
    have hlt2:j<listed.size:=by omega
    have hmem:false∈listed.toList:=Mt.2 ⟨j,by simpa [Array.getD,hlt2] using h0⟩;have:=Nm.2 hmem;omega
  have hq:Q .normal a w:=hQ tm H θ a w h hT hH hE
  cases fuel with
  | zero=>exact ⟨hr,hq⟩
  | succ f=>exact ⟨fun _=>hq,fun j hj=>by rw [hr] at hj;cases hj⟩
 | n+1,L,tm,H,h,θ,a,w,hE,hT,hH,fuel,listed,hls,hli,hcl,hcn,hf=>by
  match fuel,hf with
  | fuel+1,hf=>
  have hG:=hG0.evo hE.toEvo;refine ⟨fun hr=>?_,fun m hj=>?_⟩
  ·exfalso
   -- the first that is not listed is ready
   have hmem:false∈listed.toList:=Nm.1 (by omega);obtain ⟨m0,hm0⟩:=Mt.1 hmem
   have hm0l:m0<listed.size:=by simpa using (La.1 hm0).1
   have ex:∃ m,m<ops.size∧listed.getD m false=false:=⟨m0,by omega,by simp at hm0;simp [Array.getD,hm0l];simpa [hm0l] using hm0⟩
   have least:∀ b,(∃ m,m<b∧m<ops.size∧listed.getD m false=false)->∃ m,m<ops.size∧listed.getD m false=false∧∀ i,i<m->listed.getD i false=true:=by
    intro b
    induction b with
    | zero=>rintro ⟨m,hm,_⟩;omega
    | succ b ih=>
     rintro ⟨m,hm,h1,h2⟩
     by_cases hs:∃ m,m<b∧m<ops.size∧listed.getD m false=false
     ·exact ih hs
     refine ⟨m,h1,h2,fun i hi=>?_⟩
     cases hx:listed.getD i false with
     | true=>rfl
     | false=>exact absurd ⟨i,by omega,by omega,hx⟩ hs
   obtain ⟨m,hm1,hm2,hm3⟩:=least ops.size (by obtain ⟨m,h1,h2⟩:=ex;exact ⟨m,h1,h1,h2⟩);have hom:ops[m]? = some ops[m]:=Ly (by omega);have hcm:all[m]? = some all[m]:=Lb (by omega)
   have mready:m∈Region.ready .any ops listed:=by
    rw [mem_ready]
    have hlm:m<listed.size:=by omega
    refine ⟨by simpa [Array.getD,hlm] using hm2,_,hom,fun e he hb=>?_⟩;exact hm3 _ ((hed m _ _ hom hcm).1 e he hb)
   rw [hr] at mready;cases mready
  have hj':=hj;rw [mem_ready] at hj';obtain ⟨h0,o,ho,he⟩:=hj';have hlt:m<ops.size:=(Lz.1 ho).1
  have hlm:m<listed.size:=by omega
  have hcm:all[m]? = some all[m]:=Lb (by omega)
  have hnl:L.testBit m=false:=by
   cases hx:L.testBit m with
   | false=>rfl
   | true=>
    have:=(hli m hlt).2 hx;simp [Array.getD,hlm] at h0 this;rw [h0] at this;cases this
  have hb:∀ b,(all[m]).bef.testBit b=true->L.testBit b=true:=fun b hb=>by
   have:=hed.closed (L:=fun i=>i<ops.size∧listed.getD i false=true) (j:=m) (fun i c b hi hc hL hb=>by
     have h1:=(hli i hL.1).1 hL.2;have h2:=hcl i c b hc h1 hb;have h3:=hed.lt hsz i c b hc hb
     exact ⟨by omega,(hli b (by omega)).2 h2⟩) ho hcm (fun e he1 he2=>by
     have h1:=he e he1 he2;have h2:=(hed m o _ ho hcm).1 e he1 he2
     exact ⟨by omega,h1⟩) hb
   exact (hli b this.1).1 this.2
  have hev:=Qgk all 0 h m _ hcm (by rw [Me];exact hnl) hb;rw [Me] at hev;generalize hcg:all[m]=c at hcm hev hb;obtain ⟨hd,hop1,hg⟩:=hop m _ c ho hcm
  have lnext:∀ i,i<ops.size->((listed.setIfInBounds m true).getD i false=true↔(Nat.lor L (2 ^ m)).testBit i=true):=by
   intro i hi;rw [Qof]
   by_cases him:i=m
   ·subst him;simp [Array.getD,hlm]
   rw [getD_set_ne false (fun e=>him e.symm),hli i hi];have:decide (m=i)=false:=Ab (fun e=>him e.symm);rw [this,Cg]
  have cnext:∀ (i:Nat) c b,all[i]? = some c->(Nat.lor L (2 ^ m)).testBit i=true->c.bef.testBit b=true->(Nat.lor L (2 ^ m)).testBit b=true:=by
   intro i c' b hc' hi hb';rw [Qof] at hi ⊢
   by_cases him:m=i
   ·subst him;rw [hcm] at hc';cases hc';rw [hb b hb'];rfl
   rw [Ab him,Cg] at hi;rw [hcl i c' b hc' hi hb'];rfl
  have nnext:(listed.setIfInBounds m true).toList.count false=n:=by
   have hget:listed.toList[m]'(by simpa using hlm)=false:=by simpa [Array.getD,hlm] using h0
   rw [Nw,Co (by simpa using hlm),hget];have q1:(if (false == false)=true then 1 else 0)=1:=rfl;have q2:(if (true == false)=true then 1 else 0)=0:=rfl;rw [q1,q2];omega
  have run:∀ tm1,TmOk θ (Qn θ H) w tm1 a->Ux (EP P Gl) tm1 H (fun v hp=>put tm1 c.dst v fun tm=>Qbc P Gl k all n (Nat.lor L (2 ^ m)) tm hp) c.op->Region.wanted o (yielded ops a.tmps)=true ->
    wpOp P ops Q m (wpAny P .any ops Q fuel (listed.setIfInBounds m true)) a w:=by
   intro tm1 hT1 hev hw;unfold wpOp;rw [ho];simp only [hw,Ak];refine .inl (Q1p hT1 hH hG hop1 hev (fun v cv H' θ' w' hkv hrv hH' hE'=>?_));rw [Uv] at hkv;exact Qan hsz hed hop hG0 hQ n _ _ H' hkv θ' _ w' (hE.trans hE') (by rw [hd];exact (hT1.mono hE'.toEvo).put c.dst hrv) hH' fuel _ (by simp [hls]) lnext cnext nnext (by omega)
  have skip:∀ tm1,TmOk θ (Qn θ H) w tm1 a->(put tm1 c.dst Wi fun tm=>Qbc P Gl k all n (Nat.lor L (2 ^ m)) tm H)->Region.wanted o (yielded ops a.tmps)=false ->
    wpOp P ops Q m (wpAny P .any ops Q fuel (listed.setIfInBounds m true)) a w:=by
   intro tm1 hT1 hev hw;unfold wpOp;rw [ho];simp only [hw,Mc,Al];rw [Uv] at hev;exact Qan hsz hed hop hG0 hQ n _ _ H hev θ _ w hE (by rw [hd];exact hT1.put c.dst Q0i) hH fuel _ (by simp [hls]) lnext cnext nnext (by omega)
  simp only [Gv] at hev
  cases hgc:c.guard with
  | none=>
   rw [hgc] at hev hg
   cases hgo:o.guard with
   | some jb=>rw [hgo] at hg;simp [Yy] at hg
   | none=>exact run tm hT hev (by simp [Region.wanted,hgo])
  | some tb=>
   obtain ⟨t,want⟩:=tb;rw [hgc] at hev hg
   cases hgo:o.guard with
   | none=>rw [hgo] at hg;simp [Yy] at hg
   | some jb=>
    obtain ⟨j2,b⟩:=jb;rw [hgo] at hg;simp only [Yy,Lc,Aj] at hg;obtain ⟨rfl,hj2⟩:=hg;simp only [Gn] at hev;generalize hvt:tm.getD t .any=vt at hev;split at hev
    ·rename_i x;obtain ⟨cv,e1,e2,e3⟩:=Q17 hT hvt (by simp);have:=Q2m e3;subst this;have hk1:=hT.known e2
     have hy':yielded ops a.tmps j2=some x:=by unfold yielded;rw [hj2];simp only [Lf,e1]
     simp only [Q3p,Gx] at hev;cases x<;>cases b<;>simp only [Ak,Al,Mc] at hev
     ·exact run _ hk1 hev (by simp [Region.wanted,hgo,hy'])
     ·exact skip _ hk1 hev (by simp [Region.wanted,hgo,hy'])
     ·exact skip _ hk1 hev (by simp [Region.wanted,hgo,hy'])
     exact run _ hk1 hev (by simp [Region.wanted,hgo,hy'])
    ·obtain ⟨cv,e1,e2,e3⟩:=Q17 hT hvt (by simp)
     have hcv:cv = .tuple #[]:=by
      cases e3 with
      | p _ _ hp=>
       cases hp with
       | tuple _ C hn hv=>
        have:C = #[]:=by apply Mp;simpa using hn
        rw [this]
     have hy':yielded ops a.tmps j2=none:=by unfold yielded;rw [hj2];simp only [Lf,e1,hcv]
     exact skip _ hT hev (by simp [Region.wanted,hgo,hy'])
    exact hev.elim
theorem Qju {cs:List COper} {tm:List AV} {H:List AObj} {k:List AV->List AObj->Prop} (n:Nat) (hn:cs.length=n) (h:Qbc P Gl k cs n 0 tm H):Q3q P Gl cs tm H k:=by
 subst hn;intro id ops hk hm hst θ a w hT hH hG;obtain ⟨s1,s2⟩:=Q03 ops.toList _ hk;simp only [Qlk,Lc] at hst
 have tol:∀ (i:Nat) o,ops[i]? = some o->ops.toList[i]? = some o:=fun i o h=>by simpa using h
 have hsz:ops.size=cs.length:=by simpa using s1
 have hed:EdgeOk ops cs:=fun i o c ho hc=>by
  have:=Q2u ops.toList _ 0 hst.1 i o c (tol i o ho) hc;simpa using this
 have hop:∀ (i:Nat) o c,ops[i]? = some o->cs[i]? = some c->o.dst=c.dst∧Q3h P o.op c.op=true∧Yy ops o.guard c.guard=true:=fun i o c ho hc=>s2 i o c (tol i o ho) hc;refine wp_region_any hm ?_
 let w1:World := { w with drawn:=w.drawn+1 }
 have e1:Evo θ H w θ (pad H.length H) w1:=Qak θ H w _ _;have hp1:=Qjp hH H.length (w.drawn+1);rw [Q9r] at e1 hp1;refine Qan hsz hed hop hG (k:=k) (fun tm' H' θ' a' w' hk' hT' hH' hE'=>?_) cs.length 0 tm H h θ a w1 ⟨e1,Li _,fun b hb=>rfl⟩ (hT.mono e1) hp1 ops.size (Array.replicate ops.size false) (by simp) (fun i hi=>by simp [Array.getD,hi]) (fun i c b _ hi=>by simp at hi) (by simp [hsz]) (by omega);exact ⟨.normal,tm',H',θ',trivial,⟨rfl,hk'⟩,hT',hH',hE'⟩
end
end
end Go.Av
