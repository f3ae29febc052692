/- Part of FromsnNames: the law returns true; no condition. -/
import Derived.Test.YtfgpphgmjcnleaaGreatDoorReg
set_option linter.all false
namespace Go.Av
noncomputable section
def Qqj:AV->Bool
 | .p x=>Wf x
 | .ptr _ _=>true
 | .gptr _ _=>true
 | .map _=>true
 | .slice _ _ _ _=>true
 | .agg cs=>cs.all fun v=>match v with | .p x=>Wf x | _=>false
 | _=>false
theorem Qdy {θ:Th} {S S':Nat->Prop} {w:World} {v:AV} {x:Value} (hf:Qqj v=true) (h:RelV θ S w v x):RelV θ S' w v x:=by
 cases v with
 | p y=>cases h with | p _ _ h=>exact .p _ _ (J5 y x hf h)
 | ptr a off=>cases h with | ptr _ _ l hl=>exact .ptr a off l hl
 | gptr g off=>cases h;exact .gptr _ _
 | map r=>cases h with | map _ l hl=>exact .map r l hl
 | slice e a off len=>cases h with
  | slice _ _ _ _ cap l addr hl he h1 h2 h3=>exact .slice _ _ _ _ cap l addr hl he h1 h2 h3
  | sliceN _ _ _ o=>exact .sliceN _ _ _ o
 | agg cs=>cases h with
  | agg _ C hn h1 hv=>
   refine .agg cs C hn h1 (fun i y hy=>?_);have hy':=Lp.1 hf y (Mk hy);have:=hv i y hy
   cases y with
   | p z=>cases this with | p _ _ h=>exact .p _ _ (J5 z _ hy' h)
   | _=>cases hy'
 | _=>cases hf
def Qry:AObj->Bool
 | .cells cs=>cs.all Qqj
 | .map es=>es.all fun q=>Wf q.1&&Qqj q.2
 | _=>false
theorem Qke {θ:Th} {S S':Nat->Prop} {w:World} {o:AObj} {l:Loc} (hf:Qry o=true) (h:RelB θ S w o l):RelB θ S' w o l:=by
 cases o with
 | cells cs=>
  obtain ⟨C,t,fz,h1,h2,h3,h4,h5⟩:=h;exact ⟨C,t,fz,h1,h2,h3,h4,fun j v hj=>⟨Qdy (Lp.1 hf v (Mk hj)) (h5 j v hj).1,(h5 j v hj).2⟩⟩
 | map es=>
  obtain ⟨E,c,h1,h2,h4,h3⟩:=h;refine ⟨E,c,h1,h2,h4,fun i k v hi=>?_⟩;have:=Lp.1 hf (k,v) (Mk hi);simp only [Lb] at this;exact ⟨J5 k _ this.1 (h3 i k v hi).1,Qdy this.2 (h3 i k v hi).2⟩
 | _=>cases hf
theorem Qdc (C:RCl) (i:Nat) (o:AObj) (h:(Wd C)[i]? = some o):Qry o=true:=by
 match i,h with
 | 0,h=>cases h;rfl
 | 1,h=>
  cases h;show ((Q4j C.ids).all _)=true;rw [Lp];intro q hq;obtain ⟨x,_,rfl⟩:=Mm.1 hq;rfl
 | 2,h=>
  cases h;show ((Q0z C.all).all _)=true;rw [Lp];intro q hq;obtain ⟨x,_,rfl⟩:=Mm.1 hq;rfl
 | 3,h=>
  cases h;show ((Qb5 C.back).all _)=true;rw [Lp];intro q hq;obtain ⟨x,_,rfl⟩:=Mm.1 hq;rfl
 | i+4,h=>simp [Wd] at h
def Q5k (C:RCl):List AObj := [.cells [.map 3,.map 4,.slice 1 5 0 C.back.length,.p (.int .i64 C.next)],.map (Q4j C.ids),.map (Q0z C.all),.cells (Qb5 C.back)]
theorem Q9w (C:RCl) (j:Nat):(Q5k C)[j]? = ((Wd C)[j]?).map (Q2d fun j=>2+j):=by
 match j with
 | 0=>rfl
 | 1=>
  show some (AObj.map (Q4j C.ids))=some (AObj.map ((Q4j C.ids).map fun p=>(p.1,Js (fun j=>2+j) p.2)));unfold Q4j;rw [Nd];rfl
 | 2=>
  show some (AObj.map (Q0z C.all))=some (AObj.map ((Q0z C.all).map fun p=>(p.1,Js (fun j=>2+j) p.2)));unfold Q0z;rw [Nd];rfl
 | 3=>
  show some (AObj.cells (Qb5 C.back))=some (AObj.cells (Q7i (fun j=>2+j) (Qb5 C.back)));rw [Xd];unfold Qb5;rw [Nd];rfl
 | j+4=>simp [Wd,Q5k]
def Q41 (R:Reg) (g:List (Nat×Nat)) (i:Nat) (k:List UInt8) (C:RCl):List AObj := .cells [.map 1] :: .map ((gm R g).set i (.str k,.ptr 2 0))::Q5k C
theorem Q25 {R:Reg} {g:List (Nat×Nat)} (h:g.length=R.length):(gm R g).length=R.length:=by
 unfold gm;rw [Mg,List.length_zip,h];simp
theorem Q50 {R:Reg} {g:List (Nat×Nat)} (h:g.length=R.length) {j:Nat} {q:List UInt8×RCl} (hq:R[j]? = some q):(gm R g)[j]? = some (.str q.1,.gptr (g.getD j (0,0)).1 (g.getD j (0,0)).2):=by
 have hlt:=(La.1 hq).1;unfold gm;rw [Lk,(Ck (z:=(q,g[j]'(by omega)))).2 ⟨hq,Lc (show j<g.length by omega)⟩];rw [Le,Lc (show j<g.length by omega)];rfl
structure Parts (w:World) (R:Reg) (la:Loc) (fp:Nat->Prop) (g:List (Nat×Nat)) (mt:Nat->Option Loc) (ms:Nat->Nat->Option Loc) (ft:Nat->Prop) (fs:Nat->Nat->Prop):Prop where
 len:g.length=R.length
 first:mt 0=some la
 top:Lies w (Xi R g) mt ft
 fpt:∀ c,ft c->fp c
 cl:∀ i q,R[i]? = some q->ClRep w q.2 (g.getD i (0,0)) (ms i) (fs i)∧∀ c,fs i c->fp c∧¬ ft c
 dis:∀ i j c,i<R.length->j<R.length->i≠j->fs i c->fs j c->False
theorem RegRep.parts {w:World} {R:Reg} {la:Loc} {fp:Nat->Prop} (h:RegRep w R la fp):∃ g mt ms ft fs,Parts w R la fp g mt ms ft fs:=by
 obtain ⟨g,mt,ms,ft,fs,h1,h2,h3,h4,h5,h6⟩:=h;exact ⟨g,mt,ms,ft,fs,h1,h2,h3,h4,h5,h6⟩
def mF (mt:Nat->Option Loc) (m:Nat->Option Loc):Nat->Option Loc:=fun i=>if i<2 then mt i else m (i - 2)
theorem Qd4 {w:World} {R:Reg} {la:Loc} {fp:Nat->Prop} {g:List (Nat×Nat)} {mt:Nat->Option Loc} {ms:Nat->Nat->Option Loc} {ft:Nat->Prop} {fs:Nat->Nat->Prop}
  (p:Parts w R la fp g mt ms ft fs) {i:Nat} {k:List UInt8} {C:RCl} (hi:R[i]? = some (k,C)):Lies w (Q41 R g i k C) (mF mt (ms i)) fp:=by
 obtain ⟨hc,hfs⟩:=p.cl i _ hi
 obtain ⟨l0,hl0,hb0⟩:=hc.first
 have ht:∀ a l,mt a=some l->mF mt (ms i) a=some l:=fun a l h=>by
  have:a<2:=by
   by_cases h2:a<2
   ·exact h2
   rw [p.top.fresh a (by show 2≤a;omega)] at h;cases h
  simp only [mF,Af this];exact h
 have hs:∀ a l,ms i a=some l->mF mt (ms i) (2+a)=some l:=fun a l h=>by
  simp only [mF];rw [Ae (by omega),show 2+a - 2=a by omega];exact h
 refine ⟨fun j o l hj hl=>?_,fun j l hl=>?_,fun j hj=>?_,fun a b la' lb ha hb hne=>?_⟩
 ·match j,hj with
  | 0,hj=>
   have h2:mt 0=some l:=by simpa [mF] using hl
   have:=p.top.obj 0 o l hj h2;exact Aq (θ:=Q4u mt) (θ':=Q4u (mF mt (ms i))) (S:=fun _=>False) (S':=fun _=>False) (w:=w) (w':=w) ht (fun _ _ e=>e.elim) (fun _=>rfl) this
  | 1,hj=>
   have h2:mt 1=some l:=by simpa [mF] using hl
   have:=p.top.obj 1 _ l rfl h2;have ho:o = .map ((gm R g).set i (.str k,.ptr 2 0)):=(Am hj).symm;subst ho;obtain ⟨E,clk,q1,q2,q4,q3⟩:=this;refine ⟨E,clk,q1,by rw [Mn];exact q2,q4,fun x kk v hx=>?_⟩
   by_cases hxi:i=x
   ·subst hxi
    have hlt:i<(gm R g).length:=by rw [Q25 p.len];exact (La.1 hi).1
    rw [Li hlt] at hx;cases hx;obtain ⟨r1,r2⟩:=q3 i _ _ (Q50 p.len hi);refine ⟨r1,?_⟩;rw [← hb0] at r2;have hp:RelV (Q4u (mF mt (ms i))) (fun _=>False) w (.ptr 2 0) (.pointer (some ⟨l0.blk,l0.off+0,none⟩)) := .ptr 2 0 l0 (hs 0 l0 hl0);generalize (E.getD i default).val=vv at r2;cases r2;exact hp
   rw [Lg hxi] at hx;obtain ⟨r1,r2⟩:=q3 x kk v hx;exact ⟨r1,Ap (θ:=Q4u mt) (θ':=Q4u (mF mt (ms i))) (S:=fun _=>False) (S':=fun _=>False) (w:=w) (w':=w) ht (fun _ _ e=>e.elim) r2⟩
  | j+2,hj=>
   have hj:(Q5k C)[j]? = some o:=hj;rw [Q9w] at hj
   have h2:ms i j=some l:=by
    simp only [mF] at hl;rw [Ae (by omega),show j+2 - 2=j by omega] at hl;exact hl
   cases hq:(Wd C)[j]? with
   | none=>rw [hq] at hj;cases hj
   | some o0=>
    rw [hq] at hj;have ho:o=Q2d (fun j=>2+j) o0:=(Am hj).symm;subst ho;have hr:=hc.lies.obj j o0 l hq h2;have:=Qgm (θ:=Q4u (ms i)) (θ':=Q4u (mF mt (ms i))) (σ:=fun j=>2+j) (S:=fun _=>False) (S':=fun _=>False) (w:=w) hs (fun _ e=>e) (Qdr hr)
    cases o0 with
    | ext Q a=>exact hr.elim
    | _=>exact this
 ·by_cases h2:j<2
  ·simp only [mF,Af h2] at hl;exact p.fpt _ (p.top.occ j l hl)
  simp only [mF,Ae h2] at hl;exact (hfs _ (hc.lies.occ _ l hl)).1
 ·have h6:6≤j:=hj;simp only [mF];rw [Ae (by omega)];exact hc.lies.fresh (j - 2) (by show 4≤j - 2;omega)
 intro e
 by_cases h2:a<2<;>by_cases h3:b<2
 ·simp only [mF,Af h2] at ha;simp only [mF,Af h3] at hb;exact p.top.dist a b la' lb ha hb hne e
 ·simp only [mF,Af h2] at ha;simp only [mF,Ae h3] at hb;exact (hfs _ (hc.lies.occ _ lb hb)).2 (e▸p.top.occ a la' ha)
 ·simp only [mF,Ae h2] at ha;simp only [mF,Af h3] at hb;exact (hfs _ (hc.lies.occ _ la' ha)).2 (e▸p.top.occ b lb hb)
 simp only [mF,Ae h2] at ha;simp only [mF,Ae h3] at hb;exact hc.lies.dist (a - 2) (b - 2) la' lb ha hb (by omega) e
theorem Qdu {w w':World} {la:Loc} {fp used:Nat->Prop} {θ':Th} {H':List AObj} {R':Reg} {g:List (Nat×Nat)} {i0:Nat} {k:List UInt8} {C':RCl} {ρ:Nat->Nat} {ms:Nat->Nat->Option Loc} {fs:Nat->Nat->Prop}
  (hg:g.length=R'.length) (hi:R'[i0]? = some (k,C'))
  (hoth:∀ i q,i≠i0->R'[i]? = some q->ClRep w q.2 (g.getD i (0,0)) (ms i) (fs i)∧∀ c,fs i c->fp c∧¬ used c)
  (hdis:∀ i j c,i≠i0->j≠i0->i<R'.length->j<R'.length->i≠j->fs i c->fs j c->False)
  (hkeep:∀ c,fp c->¬ used c->w'.heap[c]? = w.heap[c]? ∧ NL θ' H' c)
  (hH:Hp θ' H' w') (h0 : θ' 0=some la) (e0:H'[0]? = some (.cells [.map 1])) (e1:H'[1]? = some (.map ((gm R' g).set i0 (.str k,.ptr (ρ 0) 0))))
  (hren:Ren ρ 0 [] H' [] (Wd C')) (hρ:∀ i,i<4->2 ≤ ρ i):RegRep w' R' la (fun c=>fp c∨¬ NL θ' H' c):=by
 have hil:i0<R'.length:=(La.1 hi).1
 have hgl:i0<(gm R' g).length:=by rw [Q25 hg];exact hil
 have r0:=hH.obj 0 _ la e0 h0
 obtain ⟨l1,hl1⟩:∃ l1,θ' 1=some l1:=by
  obtain ⟨C,t,fz,q1,q2,q3,q4,q5⟩:=r0;have:=(q5 0 (.map 1) rfl).1;generalize C.getD (la.off+0) Qc=vv at this
  cases this with
  | map _ l hl=>exact ⟨l,hl⟩
 have r1:=hH.obj 1 _ l1 e1 hl1
 obtain ⟨lc,hlc⟩:∃ lc,θ' (ρ 0)=some lc:=by
  obtain ⟨E,clk,q1,q2,_,q3⟩:=r1;have:=(q3 i0 (.str k) (.ptr (ρ 0) 0) (Li hgl)).2;generalize (E.getD i0 default).val=vv at this
  cases this with
  | ptr _ _ l hl=>exact ⟨l,hl⟩
 obtain ⟨_,hHc,_⟩:=Q8z hren hH
 have hm4:∀ j l,(if j<4 then θ' (ρ j) else none)=some l->j<4 ∧ θ' (ρ j)=some l:=fun j l h=>by
  by_cases hj:j<4
  ·rw [Af hj] at h;exact ⟨hj,h⟩
  rw [Ae hj] at h;cases h
 have live4:∀ j l,j<4->θ' (ρ j)=some l->∃ o,H'[ρ j]? = some o∧o.live=true∧o.occ l l.blk:=fun j l hj hl=>by
  obtain ⟨o,ho⟩:∃ o,(Wd C')[j]? = some o:=⟨_,Lc (show j<(Wd C').length from hj)⟩;have hf:=Qdc C' j o ho
  have hol:o.live=true:=by cases o<;>first | rfl | cases hf
  have:=Q4d (Wd C') 0 hren.hp j o ho hol;rw [Lv] at this
  rcases this with ⟨o0,g1,g2⟩ | ⟨_,g2⟩
  ·refine ⟨o0,g1,by rw [g2.live];exact hol,?_⟩;refine g2.occ _ _ ?_
   cases o<;>first | rfl | cases hf
  rw [hH.fresh _ g2] at hl;cases hl
 let mt':Nat->Option Loc:=fun i=>if i=0 then some la else if i=1 then some l1 else none
 let ft':Nat->Prop:=fun c=>c=la.blk∨c=l1.blk
 let m0:Nat->Option Loc:=fun j=>if j<4 then θ' (ρ j) else none
 let f0:Nat->Prop:=fun c=>∃ j l,j<4 ∧ θ' (ρ j)=some l∧l.blk=c
 have occ01:∀ c,ft' c->¬ NL θ' H' c:=fun c hc hn=>by
  rcases hc with rfl | rfl
  ·exact hn 0 _ la e0 rfl h0 rfl
  exact hn 1 _ l1 e1 rfl hl1 rfl
 have occ4:∀ c,f0 c->¬ NL θ' H' c:=fun c ⟨j,l,h1,h2,h3⟩ hn=>by
  obtain ⟨o,g1,g2,g3⟩:=live4 j l h1 h2;exact hn (ρ j) o l g1 g2 h2 (h3▸g3)
 have d4:∀ c,f0 c->¬ ft' c:=fun c ⟨j,l,h1,h2,h3⟩ hc=>by
  obtain ⟨o,g1,g2,g3⟩:=live4 j l h1 h2;have hr:=hρ j h1
  rcases hc with hc | hc
  ·exact hH.dist (ρ j) 0 o _ l la g1 e0 g2 rfl h2 h0 (by omega) c (h3▸g3) hc.symm
  exact hH.dist (ρ j) 1 o _ l l1 g1 e1 g2 rfl h2 hl1 (by omega) c (h3▸g3) hc.symm
 refine ⟨g.set i0 (lc.blk,lc.off),mt',fun i=>if i=i0 then m0 else ms i,ft',fun i=>if i=i0 then f0 else fs i,by rw [Mn];exact hg,rfl,?_,fun c hc => .inr (occ01 c hc),fun i q hq=>?_,fun i j c hi' hj' hne h1 h2=>?_⟩
 ·refine ⟨fun i o l hio hl=>?_,fun i l hl=>?_,fun i hlen=>?_,fun i j li lj h1 h2 hne e=>?_⟩
  ·match i,hio with
   | 0,hio=>
    cases hio
    have:l=la:=by simpa [mt'] using hl.symm
    subst this;obtain ⟨C,t,fz,q1,q2,q3,q4,q5⟩:=r0;refine ⟨C,t,fz,q1,q2,q3,q4,fun j v hj=>?_⟩
    match j,hj with
    | 0,hj=>
     cases hj;refine ⟨?_,(q5 0 (.map 1) rfl).2⟩;have:=(q5 0 (.map 1) rfl).1;generalize C.getD (l.off+0) Qc=vv at this
     cases this with
     | map _ l2 hl2=>
      rw [hl1] at hl2;cases hl2;exact .map 1 l1 (by simp [Q4u,mt'])
    | j+1,hj=>simp at hj
   | 1,hio=>
    have ho:o = .map (gm R' (g.set i0 (lc.blk,lc.off))):=(Am hio).symm;subst ho
    have:l=l1:=by simpa [mt'] using hl.symm
    subst this;obtain ⟨E,clk,q1,q2,q4,q3⟩:=r1
    have hg':(g.set i0 (lc.blk,lc.off)).length=R'.length:=by rw [Mn];exact hg
    refine ⟨E,clk,q1,by rw [Q25 hg',← Q25 hg,← Mn];exact q2,q4,fun x kk v hx=>?_⟩
    have hxl:x<R'.length:=by have:=(La.1 hx).1;rwa [Q25 hg'] at this
    rw [Q50 hg' (Lc hxl)] at hx;cases hx
    by_cases hxi:i0=x
    ·subst hxi
     have hq:R'[i0]=(k,C'):=by rw [Lc hxl] at hi;exact Am hi
     obtain ⟨s1,s2⟩:=q3 i0 (.str k) (.ptr (ρ 0) 0) (Li hgl)
     have hgd:(g.set i0 (lc.blk,lc.off)).getD i0 (0,0)=(lc.blk,lc.off):=by
      rw [Le,Li (by omega)];rfl
     rw [hq,hgd];refine ⟨J5 (.str k) _ rfl s1,?_⟩;generalize (E.getD i0 default).val=vv at s2
     cases s2 with
     | ptr _ _ l2 hl2=>rw [hlc] at hl2;cases hl2;exact .gptr _ _
    obtain ⟨s1,s2⟩:=q3 x _ _ (by rw [Lg hxi];exact Q50 hg (Lc hxl))
    have hgd:(g.set i0 (lc.blk,lc.off)).getD x (0,0)=g.getD x (0,0):=by
     rw [Le,Le,Lg hxi]
    rw [hgd];exact ⟨J5 (.str _) _ rfl s1,by generalize (E.getD x default).val=vv at s2;cases s2;exact .gptr _ _⟩
   | i+2,hio=>simp [Xi] at hio
  ·by_cases h:i=0
   ·subst h;have:l=la:=by simpa [mt'] using hl.symm
    subst this;exact .inl rfl
   by_cases h':i=1
   ·subst h';have:l=l1:=by simpa [mt'] using hl.symm
    subst this;exact .inr rfl
   simp [mt',h,h'] at hl
  ·have:2≤i:=hlen;simp only [mt'];rw [Ae (by omega),Ae (by omega)]
  have hd:=hH.dist 0 1 _ _ la l1 e0 e1 rfl rfl h0 hl1 (by omega)
  have key:∀ i l,mt' i=some l->(i=0∧l=la)∨(i=1∧l=l1):=fun i l h=>by
   by_cases h0:i=0
   ·subst h0;exact .inl ⟨rfl,by simpa [mt'] using h.symm⟩
   by_cases h1:i=1
   ·subst h1;exact .inr ⟨rfl,by simpa [mt'] using h.symm⟩
   simp [mt',h0,h1] at h
  rcases key i li h1 with ⟨rfl,rfl⟩ | ⟨rfl,rfl⟩<;>rcases key j lj h2 with ⟨rfl,rfl⟩ | ⟨rfl,rfl⟩
  ·exact hne rfl
  ·exact hd _ rfl e.symm
  ·exact hd _ rfl e
  exact hne rfl
 ·by_cases hii:i=i0
  ·subst hii;rw [hi] at hq;cases hq;simp only [Af]
   have hgd:(g.set i (lc.blk,lc.off)).getD i (0,0)=(lc.blk,lc.off):=by
    rw [Le,Li (by omega)];rfl
   refine ⟨⟨⟨fun j o l hj hl=>?_,fun j l hl=>?_,fun j hj=>?_,fun a b la' lb ha hb hne e=>?_⟩,lc,?_,hgd.symm⟩,fun c hc=>⟨.inr (occ4 c hc),d4 c hc⟩⟩
   ·obtain ⟨g1,g2⟩:=hm4 j l hl;have hr:=hHc.obj j o l hj (by show (if j<4 then θ' (ρ j) else none)=some l;exact hl);have hf:=Qdc C' j o hj
    have hrb:RelB (rθ θ' ρ (Wd C').length) (Qe (rθ θ' ρ (Wd C').length) (Wd C')) w' o l:=by cases o<;>first | exact hr | cases hf
    exact Aq (θ:=rθ θ' ρ (Wd C').length) (θ':=Q4u m0) (S:=fun _=>False) (S':=fun _=>False) (w:=w') (w':=w') (fun a l e=>e) (fun _ _ e=>e.elim) (fun _=>rfl) (Qke hf hrb)
   ·obtain ⟨g1,g2⟩:=hm4 j l hl;exact ⟨j,l,g1,g2,rfl⟩
   ·have:4≤j:=hj;show (if j<4 then θ' (ρ j) else none)=none;rw [Ae (by omega)]
   ·obtain ⟨a1,a2⟩:=hm4 a la' ha;obtain ⟨b1,b2⟩:=hm4 b lb hb;obtain ⟨oa,ha0⟩:∃ o,(Wd C')[a]? = some o:=⟨_,Lc (show a<(Wd C').length from a1)⟩;obtain ⟨ob,hb0⟩:∃ o,(Wd C')[b]? = some o:=⟨_,Lc (show b<(Wd C').length from b1)⟩;have fa:=Qdc C' a oa ha0;have fb:=Qdc C' b ob hb0
    exact hHc.dist a b oa ob la' lb ha0 hb0 (by cases oa<;>first | rfl | cases fa) (by cases ob<;>first | rfl | cases fb) ha hb hne la'.blk (by cases oa<;>first | rfl | cases fa) (by cases ob<;>first | exact e.symm | cases fb)
   show (if 0<4 then θ' (ρ 0) else none)=some lc;rw [Af (by omega)];exact hlc
  obtain ⟨h1,h2⟩:=hoth i q hii hq;simp only [Ae hii]
  have hgd:(g.set i0 (lc.blk,lc.off)).getD i (0,0)=g.getD i (0,0):=by
   rw [Le,Le,Lg (fun e=>hii e.symm)]
  rw [hgd]
  refine ⟨⟨h1.lies.mono fun c hc=>⟨hc,(hkeep c (h2 c hc).1 (h2 c hc).2).1⟩,h1.first⟩,fun c hc=>⟨.inl (h2 c hc).1,fun ht=>occ01 c ht (hkeep c (h2 c hc).1 (h2 c hc).2).2⟩⟩
 by_cases h3:i=i0<;>by_cases h4:j=i0
 ·exact hne (h3.trans h4.symm)
 ·simp only [Af h3] at h1;simp only [Ae h4] at h2;obtain ⟨_,k2⟩:=hoth j _ h4 (Lc hj');exact occ4 c h1 (hkeep c (k2 c h2).1 (k2 c h2).2).2
 ·simp only [Ae h3] at h1;simp only [Af h4] at h2;obtain ⟨_,k2⟩:=hoth i _ h3 (Lc hi');exact occ4 c h2 (hkeep c (k2 c h1).1 (k2 c h1).2).2
 simp only [Ae h3] at h1;simp only [Ae h4] at h2;exact hdis i j c h3 h4 hi' hj' hne h1 h2
end
end Go.Av
