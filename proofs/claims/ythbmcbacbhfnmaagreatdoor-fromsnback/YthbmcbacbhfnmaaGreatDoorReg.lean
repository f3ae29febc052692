/- Part of FromsnBack: the law returns true; no condition. -/
import Derived.Test.YthbmcbacbhfnmaaGreatDoorAvSelf
section
set_option linter.all false
namespace Go.Av
noncomputable section
set_option maxHeartbeats 4000000
def Qin (p:Nat->Prop):∀ n:Nat,∃ N:Nat,∀ c,N.testBit c=true↔c<n∧p c
 | 0=>⟨0,fun c=>by simp⟩
 | n+1=>by
  obtain ⟨N,hN⟩:=Qin p n
  by_cases h:p n
  ·refine ⟨N ||| 2 ^ n,fun c=>?_⟩<;>grind
  refine ⟨N,fun c=>?_⟩<;>grind
def Q14 {θ:Th} {S:Nat->Prop} {w:World} {o:AObj} {l:Loc} (h:RelB θ S w o l) (c:Nat):o.occ l c↔l.blk=c:=by
 cases o with
 | ext R a=>exact gS
 | _=>rfl
def Qgw {θ:Th} {S:Nat->Prop} {w:World} {o:AObj} {l:Loc} (h:RelB θ S w o l):RelObj θ S w o l:=by
 cases o with
 | ext R a=>exact gS
 | _=>exact h
section
variable {P:Program} {Gl:Nat->Option (List PV)}
def Q6f (P:Program) (Gl:Nat->Option (List PV)) (f:Nat) (R:Reg) (args:List PV) (r:PV) (R':Reg):Prop:=
 ∀ (H:List AObj) (b a:Nat),H[b]? = some (.ext R a)->∀ vs,FrzL (fun _=>False) H vs args ->
  Qq P Gl f (.ptr a 0::vs) H (fun v H'=>v = .p r∧H'=H.set b .dead ++ [.ext R' a])
def Qyq (w:World) (la:Loc) (fp used:Nat->Prop) (R':Reg) (H':List AObj):Prop:=
 ∀ (w':World) (θ':Th),Hp θ' H' w'->θ' 0=some la->w.heap.size≤w'.heap.size->(∀ c,fp c->¬ used c->w'.heap[c]? = w.heap[c]? ∧ NL θ' H' c)->RegRep w' R' la (fun c=>fp c∨¬ NL θ' H' c)
def Qql {f:Nat} {args:List PV} {r:PV} {R R':Reg} (hok:Qm8 P f=true) (hr:Q29 r=true)
  (hc:∀ (w:World) (la:Loc) (fp:Nat->Prop),RegRep w R la fp->∃ (F:List AObj) (m:Nat->Option Loc),m 0=some la∧0<F.length∧Lies w F m fp∧(∀ (i:Nat) Q e,F[i]? ≠ some (AObj.ext Q e)) ∧
   Qq P Gl f (.ptr 0 0::args.map .p) F (fun v H'=>v = .p r∧Qyq w la fp (fun c=>∃ i l,m i=some l∧l.blk=c) R' H')):Q6f P Gl f R args r R':=by
 intro H b a hb vs hvs;refine ⟨hok,fun θ w cargs hargs hH hG=>?_⟩;have hp0:=hargs.2 0 (.ptr a 0) rfl
 obtain ⟨la,hla,hcv⟩:∃ l,θ a=some l∧cargs.getD 0 Qr = .pointer (some ⟨l.blk,l.off+0,none⟩):=cp
 obtain ⟨lt,hlt⟩:=hH.tok b R a hb;obtain ⟨⟨la',hla',hrep⟩,hbnd⟩:=hH.obj b _ lt hb hlt;rw [hla] at hla';cases hla';have hocc:∀ c,lt.size.testBit c=true->¬ Qu θ H c:=fun c hc hf=>hf.2 b _ lt hb rfl hlt hc;obtain ⟨F,m,m0,hF0,hL,hnx,hcall⟩:=hc w la _ hrep
 let used:Nat->Prop:=fun c=>∃ i l,m i=some l∧l.blk=c
 have hused:∀ c,used c->lt.size.testBit c=true:=fun c ⟨i,l,h1,h2⟩=>h2▸hL.occ i l h1
 let bad0:Nat->Prop:=fun c=>c<w.heap.size∧¬ Qu θ H c∧¬ used c
 let θ0:Th:=⟨m,bad0⟩
 have hnlF:∀ c,¬ used c->NL θ0 F c:=fun c hc i o l hi hol hθ e=>hc ⟨i,l,hθ,(Q14 (hL.obj i o l hi hθ) c).1 e⟩;have hfree:∀ c,Qu θ H c->Qu θ0 F c:=fun c hf=>⟨fun hb=>hb.2.1 hf,hnlF c fun hu=>hocc c (hused c hu) hf⟩;have hmp:∀ x v,RelP (Qu θ H) w x v->RelP (Qu θ0 F) w x v:=fun x v h=>h.mono (fun c _ hf=>⟨hfree c hf,rfl⟩)
 have hH0:Hp θ0 F w:=ao
 have hG0:GlobOK Gl θ0 F w:=aH
 have hargs0:Q6h θ0 (Qu θ0 F) w (.ptr 0 0::args.map .p) cargs:=by
  refine ⟨by rw [hargs.1];simp [hvs.1],fun i v hv=>?_⟩
  cases i with
  | zero=>
   simp at hv;subst hv;rw [hcv];exact .ptr 0 0 la m0
  | succ i=>
   exact eB
 refine (hcall.2 θ0 w cargs hargs0 hH0 hG0).mono ?_
 rintro e w' ⟨v,cr,H',θ',rfl,⟨rfl,hcl⟩,q2,q3,q4⟩
 have hl' : θ' 0=some la:=gC
 have hnl:∀ c,c<w.heap.size->¬ used c->NL θ' H' c∧w'.heap[c]? = w.heap[c]? := fun c hc hu=>q4.nl c hc (hnlF c hu);have hrep':=hcl w' θ' q3 hl' q4.size (fun c h1 h2=>⟨(hnl c (hbnd c h1) h2).2,(hnl c (hbnd c h1) h2).1⟩);obtain ⟨N,hN⟩:=Qin (fun c=>lt.size.testBit c=true∨¬ NL θ' H' c) w'.heap.size
 have hold:∀ c,N.testBit c=true->lt.size.testBit c=true∨w.heap.size≤c:=fun c h=>by
  grind
 have hlim:∀ c,¬ NL θ' H' c->c<w'.heap.size:=fun c h=>Lo fun hn=>h fun i o l hi hol hθ e=>hn ((q3.obj i o l hi hθ).lt hol c e)
 have hrepN:RegRep w' R' la (fun c=>N.testBit c=true):=hrep'.mono fun c h=>⟨(hN c).2 ⟨by
  rcases h with h | h
  ·exact Lu (hbnd c h) q4.size
  simp_all,h⟩,rfl⟩
 let n:=H.length
 let ln:Loc:=⟨0,0,N⟩
 have hbl:b<n:=(Ld.1 hb).1
 have hal:a<n:=dj
 have hl1:(H.set b .dead).length=n:=by grind
 have get:∀ (i:Nat) o,(H.set b .dead ++ [.ext R' a])[i]? = some o->(i=n∧o = .ext R' a)∨(i<n∧i=b∧o = .dead)∨(i<n∧i≠b∧H[i]? = some o):=by grind
 have hext:∀ i l,θ i=some l->upθ θ n ln i=some l:=fun i l h=> eT
 have tt:∀ i l,i<n->upθ θ n ln i=some l->θ i=some l:=fun i l hi h=> eZ
 have nl2:∀ c,c<w.heap.size->NL θ H c->NL (upθ θ n ln) (H.set b .dead ++ [.ext R' a]) c∧w'.heap[c]? = w.heap[c]? := fun c hc hf=> ay
 have free2:∀ c,c<w.heap.size->Qu θ H c->Qu (upθ θ n ln) (H.set b .dead ++ [.ext R' a]) c∧w'.heap[c]? = w.heap[c]? := fun c hc hf=>⟨⟨hf.1,(nl2 c hc hf.2).1⟩,(nl2 c hc hf.2).2⟩
 have apart:∀ i o l,i≠b->H[i]? = some o->o.live=true->θ i=some l->∀ c,o.occ l c->c<w.heap.size∧¬ lt.size.testBit c=true:=fun i o l hib hi hol hθ c hc=>
  ⟨(hH.obj i o l hi hθ).lt hol c hc,fun h=>hH.dist i b o _ l lt hi hb hol rfl hθ hlt hib c hc h⟩
 refine ⟨.p r,cr,_,upθ θ n ln,rfl,⟨rfl,rfl⟩,.p _ _ ?_,⟨?_,?_,?_,?_,?_,?_⟩,⟨⟨hext,rfl,nl2,q4.size,q4.os,q4.tape,q4.output⟩,by simp,fun i hi=>?_⟩⟩
 ·cases q2<;>grind [Q5c]
 ·exact aF
 ·exact ai
 ·exact bo
 ·exact aD
 ·exact d7
 ·exact bf
 exact eZ
end
end
end Go.Av
end
section
set_option linter.all false
namespace Go.Av
noncomputable section
set_option maxHeartbeats 4000000
def Z4w:AV->Bool
 | .p x=>Q29 x
 | .ptr _ _=>true
 | .gptr _ _=>true
 | .map _=>true
 | .slice _ _ _ _=>true
 | .agg cs=>cs.all fun v=>match v with | .p x=>Q29 x | _=>false
 | _=>false
theorem Qpb {θ:Th} {S S':Nat->Prop} {w:World} {v:AV} {x:Value} (hf:Z4w v=true) (h:RelV θ S w v x):RelV θ S' w v x:=by
 cases v with
 | p y=>cases h with | p _ _ h=>exact .p _ _ (Q5c y x hf h)
 | ptr a off=>cases h with | ptr _ _ l hl=>exact .ptr a off l hl
 | gptr g off=>cases h;exact .gptr _ _
 | map r=>cases h with | map _ l hl=>exact .map r l hl
 | slice e a off len=>cases h with
  | slice _ _ _ _ cap l addr hl he h1 h2 h3=>exact .slice _ _ _ _ cap l addr hl he h1 h2 h3
  | sliceN _ _ _ o=>exact .sliceN _ _ _ o
 | agg cs=>cases h with
  | agg _ C hn h1 hv=>
   refine .agg cs C hn h1 (fun i y hy=>?_);have hy':=Ln.1 hf y (Mk hy);have:=hv i y hy
   cases y with
   | p z=>cases this with | p _ _ h=>exact .p _ _ (Q5c z _ hy' h)
   | _=>simp_all
 | _=>cases hf
def Zag:AObj->Bool
 | .cells cs=>cs.all Z4w
 | .map es=>es.all fun q=>Q29 q.1&&Z4w q.2
 | _=>false
def Qyx {θ:Th} {S S':Nat->Prop} {w:World} {o:AObj} {l:Loc} (hf:Zag o=true) (h:RelB θ S w o l):RelB θ S' w o l:=by
 cases o with
 | cells cs=>
  obtain ⟨C,t,fz,h1,h2,h3,h4,h5⟩:=h;exact ⟨C,t,fz,h1,h2,h3,h4,fun j v hj=>⟨Qpb (Ln.1 hf v (Mk hj)) (h5 j v hj).1,(h5 j v hj).2⟩⟩
 | map es=>
  obtain ⟨E,c,h1,h2,h4,h3⟩:=h;refine ⟨E,c,h1,h2,h4,fun i k v hi=>?_⟩;have:=Ln.1 hf (k,v) (Mk hi)
  grind [Q5c,Qpb]
 | _=>cases hf
def Qly (C:RCl) (i:Nat) (o:AObj) (h:(Q2j C)[i]? = some o):Zag o=true:=by
 match i,h with
 | 0,h=>cases h;rfl
 | 1,h=>
  cases h;show ((Qio C.ids).all _)=true;rw [Ln];intro q hq;obtain ⟨x,_,rfl⟩:=Md.1 hq;rfl
 | 2,h=>
  cases h;show ((Qdw C.all).all _)=true;rw [Ln];intro q hq;obtain ⟨x,_,rfl⟩:=Md.1 hq;rfl
 | 3,h=>
  cases h;show ((Qrb C.back).all _)=true;rw [Ln];intro q hq;obtain ⟨x,_,rfl⟩:=Md.1 hq;rfl
 | i+4,h=>simp [Q2j] at h
def Qik (C:RCl):List AObj := [.cells [.map 3,.map 4,.slice 1 5 0 C.back.length,.p (.int .i64 C.next)],.map (Qio C.ids),.map (Qdw C.all),.cells (Qrb C.back)]
theorem Qgx (C:RCl) (j:Nat):(Qik C)[j]? = ((Q2j C)[j]?).map (Qcd fun j=>2+j):=by
 match j with
 | 0=>rfl
 | 1=>
  show some (AObj.map (Qio C.ids))=some (AObj.map ((Qio C.ids).map fun p=>(p.1,Q6m (fun j=>2+j) p.2)));unfold Qio;rw [Mr];rfl
 | 2=>
  show some (AObj.map (Qdw C.all))=some (AObj.map ((Qdw C.all).map fun p=>(p.1,Q6m (fun j=>2+j) p.2)));unfold Qdw;rw [Mr];rfl
 | 3=>
  show some (AObj.cells (Qrb C.back))=some (AObj.cells (Qel (fun j=>2+j) (Qrb C.back)));rw [Q0b];unfold Qrb;rw [Mr];rfl
 | j+4=>rfl
def Qed (R:Reg) (g:List (Nat×Nat)) (i:Nat) (k:List UInt8) (C:RCl):List AObj := .cells [.map 1] :: .map ((gm R g).set i (.str k,.ptr 2 0))::Qik C
theorem Qd4 {R:Reg} {g:List (Nat×Nat)} (h:g.length=R.length):(gm R g).length=R.length:=by
 simp_all [gm]
theorem Qfa {R:Reg} {g:List (Nat×Nat)} (h:g.length=R.length) {j:Nat} {q:List UInt8×RCl} (hq:R[j]? = some q):(gm R g)[j]? = some (.str q.1,.gptr (g.getD j (0,0)).1 (g.getD j (0,0)).2):=by
 grind [gm]
structure Parts (w:World) (R:Reg) (la:Loc) (fp:Nat->Prop) (g:List (Nat×Nat)) (mt:Nat->Option Loc) (ms:Nat->Nat->Option Loc) (ft:Nat->Prop) (fs:Nat->Nat->Prop):Prop where
 len:g.length=R.length
 first:mt 0=some la
 top:Lies w (U8 R g) mt ft
 fpt:∀ c,ft c->fp c
 cl:∀ i q,R[i]? = some q->ClRep w q.2 (g.getD i (0,0)) (ms i) (fs i)∧∀ c,fs i c->fp c∧¬ ft c
 dis:∀ i j c,i<R.length->j<R.length->i≠j->fs i c->fs j c->False
def RegRep.parts {w:World} {R:Reg} {la:Loc} {fp:Nat->Prop} (h:RegRep w R la fp):∃ g mt ms ft fs,Parts w R la fp g mt ms ft fs:=by
 obtain ⟨g,mt,ms,ft,fs,h1,h2,h3,h4,h5,h6⟩:=h;exact ⟨g,mt,ms,ft,fs,h1,h2,h3,h4,h5,h6⟩
def mF (mt:Nat->Option Loc) (m:Nat->Option Loc):Nat->Option Loc:=fun i=>if i<2 then mt i else m (i - 2)
def Qrx {w:World} {R:Reg} {la:Loc} {fp:Nat->Prop} {g:List (Nat×Nat)} {mt:Nat->Option Loc} {ms:Nat->Nat->Option Loc} {ft:Nat->Prop} {fs:Nat->Nat->Prop}
  (p:Parts w R la fp g mt ms ft fs) {i:Nat} {k:List UInt8} {C:RCl} (hi:R[i]? = some (k,C)):Lies w (Qed R g i k C) (mF mt (ms i)) fp:=by
 obtain ⟨hc,hfs⟩:=p.cl i _ hi
 obtain ⟨l0,hl0,hb0⟩:=hc.first
 have ht:∀ a l,mt a=some l->mF mt (ms i) a=some l:=fun a l h=>by
  have:a<2:=by
   by_cases h2:a<2
   ·exact h2
   rw [p.top.fresh a (by show 2≤a;omega)] at h;simp_all
  simp_all [mF]
 have hs:∀ a l,ms i a=some l->mF mt (ms i) (2+a)=some l:=fun a l h=>by
  simp_all [mF,Ae]
 refine ⟨fun j o l hj hl=>?_,fun j l hl=>?_,fun j hj=>?_,fun a b la' lb ha hb hne=>?_⟩
 ·match j,hj with
  | 0,hj=>
   have h2:mt 0=some l:=by simp_all [mF]
   have:=p.top.obj 0 o l hj h2;exact Aq (θ:=Qg8 mt) (θ':=Qg8 (mF mt (ms i))) (S:=fun _=>False) (S':=fun _=>False) (w:=w) (w':=w) ht (fun _ _ e=>e.elim) (fun _=>rfl) this
  | 1,hj=>
   have h2:mt 1=some l:=by simp_all [mF]
   have:=p.top.obj 1 _ l rfl h2;have ho:o = .map ((gm R g).set i (.str k,.ptr 2 0)):=(Am hj).symm;subst ho;obtain ⟨E,clk,q1,q2,q4,q3⟩:=this;refine ⟨E,clk,q1,by simp_all,q4,fun x kk v hx=>?_⟩
   by_cases hxi:i=x
   ·subst hxi
    have hlt:i<(gm R g).length:=by grind
    rw [Lt hlt] at hx;cases hx;obtain ⟨r1,r2⟩:=q3 i _ _ (Qfa p.len hi);refine ⟨r1,?_⟩;rw [← hb0] at r2;have hp:RelV (Qg8 (mF mt (ms i))) (fun _=>False) w (.ptr 2 0) (.pointer (some ⟨l0.blk,l0.off+0,none⟩)) := .ptr 2 0 l0 (hs 0 l0 hl0);generalize (E.getD i default).val=vv at r2;cases r2;exact hp
   rw [Lp hxi] at hx;obtain ⟨r1,r2⟩:=q3 x kk v hx;exact ⟨r1,Ap (θ:=Qg8 mt) (θ':=Qg8 (mF mt (ms i))) (S:=fun _=>False) (S':=fun _=>False) (w:=w) (w':=w) ht (fun _ _ e=>e.elim) r2⟩
  | j+2,hj=>
   have hj:(Qik C)[j]? = some o:=hj;rw [Qgx] at hj
   have h2:ms i j=some l:=by simp_all [mF,Ae]
   cases hq:(Q2j C)[j]? with
   | none=>simp_all
   | some o0=>
    rw [hq] at hj;have ho:o=Qcd (fun j=>2+j) o0:=(Am hj).symm;subst ho;have hr:=hc.lies.obj j o0 l hq h2;have:=Qra (θ:=Qg8 (ms i)) (θ':=Qg8 (mF mt (ms i))) (σ:=fun j=>2+j) (S:=fun _=>False) (S':=fun _=>False) (w:=w) hs (fun _ e=>e) (Qgw hr)
    cases o0 with
    | ext Q a=>exact hr.elim
    | _=>exact this
 ·by_cases h2:j<2
  ·simp only [mF,Af h2] at hl;exact p.fpt _ (p.top.occ j l hl)
  simp only [mF,Ae h2] at hl;exact (hfs _ (hc.lies.occ _ l hl)).1
 ·have h6:6≤j:=hj;simp only [mF];rw [Ae (by omega)];exact hc.lies.fresh (j - 2) (by show 4≤j - 2;omega)
 intro e
 by_cases h2:a<2<;>by_cases h3:b<2
 ·simp only [mF,Af h2] at ha;simp only [mF,Af h3] at hb;exact p.top.dist a b la' lb ha hb hne e
 ·simp only [mF,Af h2] at ha;simp only [mF,Ae h3] at hb;exact (hfs _ (hc.lies.occ _ lb hb)).2 (e▸p.top.occ a la' ha)
 ·simp only [mF,Ae h2] at ha;simp only [mF,Af h3] at hb;exact (hfs _ (hc.lies.occ _ la' ha)).2 (e▸p.top.occ b lb hb)
 simp only [mF,Ae h2] at ha;simp only [mF,Ae h3] at hb;exact hc.lies.dist (a - 2) (b - 2) la' lb ha hb (by omega) e
def Qlw {w w':World} {la:Loc} {fp used:Nat->Prop} {θ':Th} {H':List AObj} {R':Reg} {g:List (Nat×Nat)} {i0:Nat} {k:List UInt8} {C':RCl} {ρ:Nat->Nat} {ms:Nat->Nat->Option Loc} {fs:Nat->Nat->Prop}
  (hg:g.length=R'.length) (hi:R'[i0]? = some (k,C'))
  (hoth:∀ i q,i≠i0->R'[i]? = some q->ClRep w q.2 (g.getD i (0,0)) (ms i) (fs i)∧∀ c,fs i c->fp c∧¬ used c)
  (hdis:∀ i j c,i≠i0->j≠i0->i<R'.length->j<R'.length->i≠j->fs i c->fs j c->False)
  (hkeep:∀ c,fp c->¬ used c->w'.heap[c]? = w.heap[c]? ∧ NL θ' H' c)
  (hH:Hp θ' H' w') (h0 : θ' 0=some la) (e0:H'[0]? = some (.cells [.map 1])) (e1:H'[1]? = some (.map ((gm R' g).set i0 (.str k,.ptr (ρ 0) 0))))
  (hren:Ren ρ 0 [] H' [] (Q2j C')) (hρ:∀ i,i<4->2 ≤ ρ i):RegRep w' R' la (fun c=>fp c∨¬ NL θ' H' c):=by
 have hil:i0<R'.length:=(Ld.1 hi).1
 have hgl:i0<(gm R' g).length:=jk
 have r0:=hH.obj 0 _ la e0 h0
 obtain ⟨l1,hl1⟩:∃ l1,θ' 1=some l1:=aR
 have r1:=hH.obj 1 _ l1 e1 hl1
 obtain ⟨lc,hlc⟩:∃ lc,θ' (ρ 0)=some lc:=by
  obtain ⟨E,clk,q1,q2,_,q3⟩:=r1;have:=(q3 i0 (.str k) (.ptr (ρ 0) 0) (Lt hgl)).2;generalize (E.getD i0 default).val=vv at this;cases this<;>simp_all
 obtain ⟨_,hHc,_⟩:=Qgq hren hH
 have hm4:∀ j l,(if j<4 then θ' (ρ j) else none)=some l->j<4 ∧ θ' (ρ j)=some l:=fun j l h=>by
  simp_all
 have live4:∀ j l,j<4->θ' (ρ j)=some l->∃ o,H'[ρ j]? = some o∧o.live=true∧o.occ l l.blk:=fun j l hj hl=>by
  obtain ⟨o,ho⟩:∃ o,(Q2j C')[j]? = some o:=⟨_,La (show j<(Q2j C').length from hj)⟩;have hf:=Qly C' j o ho
  have hol:o.live=true:=by cases o<;>first | rfl | cases hf
  have:=Qbk (Q2j C') 0 hren.hp j o ho hol;rw [Mi] at this
  rcases this with ⟨o0,g1,g2⟩ | ⟨_,g2⟩
  ·refine ⟨o0,g1,by rw [g2.live];omega,?_⟩;refine g2.occ _ _ ?_
   cases o<;>first | rfl | cases hf
  rw [hH.fresh _ g2] at hl;simp_all
 let mt':Nat->Option Loc:=fun i=>if i=0 then some la else if i=1 then some l1 else none
 let ft':Nat->Prop:=fun c=>c=la.blk∨c=l1.blk
 let m0:Nat->Option Loc:=fun j=>if j<4 then θ' (ρ j) else none
 let f0:Nat->Prop:=fun c=>∃ j l,j<4 ∧ θ' (ρ j)=some l∧l.blk=c
 have occ01:∀ c,ft' c->¬ NL θ' H' c:=fun c hc hn=>by
  rcases hc with rfl | rfl
  ·exact hn 0 _ la e0 rfl h0 rfl
  exact hn 1 _ l1 e1 rfl hl1 rfl
 have occ4:∀ c,f0 c->¬ NL θ' H' c:=fun c ⟨j,l,h1,h2,h3⟩ hn=>by
  obtain ⟨o,g1,g2,g3⟩:=live4 j l h1 h2;exact hn (ρ j) o l g1 g2 h2 (h3▸g3)
 have d4:∀ c,f0 c->¬ ft' c:=fun c ⟨j,l,h1,h2,h3⟩ hc=>by
  obtain ⟨o,g1,g2,g3⟩:=live4 j l h1 h2;have hr:=hρ j h1
  rcases hc with hc | hc
  ·exact hH.dist (ρ j) 0 o _ l la g1 e0 g2 rfl h2 h0 (by omega) c (h3▸g3) hc.symm
  exact hH.dist (ρ j) 1 o _ l l1 g1 e1 g2 rfl h2 hl1 (by omega) c (h3▸g3) hc.symm
 refine ⟨g.set i0 (lc.blk,lc.off),mt',fun i=>if i=i0 then m0 else ms i,ft',fun i=>if i=i0 then f0 else fs i,by simp_all,rfl,?_,fun c hc => .inr (occ01 c hc),fun i q hq=>?_,fun i j c hi' hj' hne h1 h2=>?_⟩
 ·refine ⟨fun i o l hio hl=>?_,fun i l hl=>?_,fun i hlen=>?_,fun i j li lj h1 h2 hne e=>?_⟩
  ·match i,hio with
   | 0,hio=>
    cases hio
    have:l=la:=by grind
    subst this;obtain ⟨C,t,fz,q1,q2,q3,q4,q5⟩:=r0;refine ⟨C,t,fz,q1,q2,q3,q4,fun j v hj=>?_⟩
    match j,hj with
    | 0,hj=>
     cases hj;refine ⟨?_,(q5 0 (.map 1) rfl).2⟩;have:=(q5 0 (.map 1) rfl).1;generalize C.getD (l.off+0) Qr=vv at this
     cases this with
     | map _ l2 hl2=>
      rw [hl1] at hl2;cases hl2;exact .map 1 l1 (by rfl)
    | j+1,hj=>simp_all
   | 1,hio=>
    have ho:o = .map (gm R' (g.set i0 (lc.blk,lc.off))):=(Am hio).symm;subst ho
    have:l=l1:=by grind
    subst this;obtain ⟨E,clk,q1,q2,q4,q3⟩:=r1
    have hg':(g.set i0 (lc.blk,lc.off)).length=R'.length:=by simp_all
    refine ⟨E,clk,q1,jk,q4,fun x kk v hx=>?_⟩
    have hxl:x<R'.length:=by grind [Qd4]
    rw [Qfa hg' (La hxl)] at hx;cases hx
    by_cases hxi:i0=x
    ·subst hxi
     have hq:R'[i0]=(k,C'):=by simp_all
     obtain ⟨s1,s2⟩:=q3 i0 (.str k) (.ptr (ρ 0) 0) (Lt hgl)
     have hgd:(g.set i0 (lc.blk,lc.off)).getD i0 (0,0)=(lc.blk,lc.off):=by simp_all
     rw [hq,hgd];refine ⟨Q5c (.str k) _ rfl s1,?_⟩;generalize (E.getD i0 default).val=vv at s2
     cases s2 with
     | ptr _ _ l2 hl2=>rw [hlc] at hl2;cases hl2;exact .gptr _ _
    obtain ⟨s1,s2⟩:=q3 x _ _ (by rw [Lp hxi];exact Qfa hg (La hxl))
    have hgd:(g.set i0 (lc.blk,lc.off)).getD x (0,0)=g.getD x (0,0):=by grind
    rw [hgd];exact ⟨Q5c (.str _) _ rfl s1,by generalize (E.getD x default).val=vv at s2;cases s2;exact .gptr _ _⟩
   | i+2,hio=>grind
  ·grind
  ·have:2≤i:=hlen
   grind
  have hd:=hH.dist 0 1 _ _ la l1 e0 e1 rfl rfl h0 hl1 (by omega)
  have key:∀ i l,mt' i=some l->(i=0∧l=la)∨(i=1∧l=l1):=fun i l h=>by
   grind
  rcases key i li h1 with ⟨rfl,rfl⟩ | ⟨rfl,rfl⟩<;>rcases key j lj h2 with ⟨rfl,rfl⟩ | ⟨rfl,rfl⟩
  ·omega
  ·exact hd _ rfl e.symm
  ·exact hd _ rfl e
  omega
 ·by_cases hii:i=i0
  ·subst hii;rw [hi] at hq;cases hq;simp only [Af]
   have hgd:(g.set i (lc.blk,lc.off)).getD i (0,0)=(lc.blk,lc.off):=by simp_all
   refine ⟨⟨⟨fun j o l hj hl=>?_,fun j l hl=>?_,fun j hj=>?_,fun a b la' lb ha hb hne e=>?_⟩,lc,?_,hgd.symm⟩,fun c hc=>⟨.inr (occ4 c hc),d4 c hc⟩⟩
   ·obtain ⟨g1,g2⟩:=hm4 j l hl;have hr:=hHc.obj j o l hj (by show (if j<4 then θ' (ρ j) else none)=some l;omega);have hf:=Qly C' j o hj
    have hrb:RelB (rθ θ' ρ (Q2j C').length) (Qu (rθ θ' ρ (Q2j C').length) (Q2j C')) w' o l:=by cases o<;>first | exact hr | cases hf
    exact Aq (θ:=rθ θ' ρ (Q2j C').length) (θ':=Qg8 m0) (S:=fun _=>False) (S':=fun _=>False) (w:=w') (w':=w') (fun a l e=>e) (fun _ _ e=>e.elim) (fun _=>rfl) (Qyx hf hrb)
   ·grind
   ·have:4≤j:=hj
    grind
   ·obtain ⟨a1,a2⟩:=hm4 a la' ha;obtain ⟨b1,b2⟩:=hm4 b lb hb;obtain ⟨oa,ha0⟩:∃ o,(Q2j C')[a]? = some o:=⟨_,La (show a<(Q2j C').length from a1)⟩;obtain ⟨ob,hb0⟩:∃ o,(Q2j C')[b]? = some o:=⟨_,La (show b<(Q2j C').length from b1)⟩;have fa:=Qly C' a oa ha0;have fb:=Qly C' b ob hb0
    exact hHc.dist a b oa ob la' lb ha0 hb0 (by cases oa<;>first | rfl | cases fa) (by cases ob<;>first | rfl | cases fb) ha hb hne la'.blk (by cases oa<;>first | rfl | cases fa) (by cases ob<;>first | exact e.symm | cases fb)
   grind
  obtain ⟨h1,h2⟩:=hoth i q hii hq;simp only [Ae hii]
  have hgd:(g.set i0 (lc.blk,lc.off)).getD i (0,0)=g.getD i (0,0):=by grind
  rw [hgd]
  refine ⟨⟨h1.lies.mono fun c hc=>⟨hc,(hkeep c (h2 c hc).1 (h2 c hc).2).1⟩,h1.first⟩,fun c hc=>⟨.inl (h2 c hc).1,fun ht=>occ01 c ht (hkeep c (h2 c hc).1 (h2 c hc).2).2⟩⟩
 by_cases h3:i=i0<;>by_cases h4:j=i0
 ·omega
 ·simp only [Af h3] at h1;grind
 ·simp only [Ae h3] at h1;simp only [Af h4] at h2
  grind
 grind
end
end Go.Av
end
