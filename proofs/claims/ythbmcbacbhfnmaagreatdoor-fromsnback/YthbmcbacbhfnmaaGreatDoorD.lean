/- Names for tactic blocks; no condition. -/
import Derived.Calls
set_option linter.all false
namespace Go.Av
section
variable {A:Prop}
theorem aa (h:A:=by
 apply iU h<;>intro h
 ·refine Qd (cD h Zl p2 fun v5 h=>?_);refine Q85 (b:=v5) ?_;obtain ⟨hk7,h⟩:=Q6a h;refine ifF (Qnz hk7) ?_;obtain ⟨hk8,h⟩:=Q6a h;refine Q3a (W8 (c:=(cI .u8)) (e:=1) (l:=c.out) (fun _=>rfl) sd hk8) (Ja (c:=(cI .u8)) (l:=c.out) (v5.map fun b=>(b.toNat:Int)) rfl ?_);obtain rfl:=Qe h;show Exists _;exact ⟨(rho [0,1,2]),Z6⟩
 refine Qd ?_;apply iU h<;>intro h
 ·obtain rfl:=Qe h;show Exists _;exact ⟨(rho [0,1,1]),Z6⟩
 apply iU h<;>intro h
 ·obtain rfl:=Qe h;show Exists _;exact ⟨(rho [0,1,1]),Z6⟩
 obtain rfl:=Qe h;show Exists _;exact ⟨(rho [0,1,1]),Z6⟩):A:=h
theorem ab (h:A:=by
 rcases key i l hl with ⟨rfl,rfl⟩ | ⟨rfl,rfl⟩
 ·cases hio;obtain ⟨C,t,fz,q1,q2,q3,q4,q5⟩:=r0;refine ⟨C,t,fz,q1,q2,q3,q4,fun j v hj=>?_⟩
  match j,hj with
  | 0,hj=>
   cases hj;refine ⟨?_,(q5 0 (.map 1) rfl).2⟩;have:=(q5 0 (.map 1) rfl).1;generalize C.getD (l.off+0) Qr=vv at this
   cases this with
   | map _ l2 hl2=>
    rw [hl1] at hl2;cases hl2;exact .map 1 l1 (by rfl)
  | j+1,hj=>simp_all
 have ho:o = .map (gm R g):=(Am hio).symm;subst ho;obtain ⟨E,clk,q1,q2,q4,q3⟩:=r1;refine ⟨E,clk,q1,q2,q4,fun x kk v hx=>?_⟩
 have hxl:x<R.length:=by have:=(Ld.1 hx).1;rwa [Qd4 p.len] at this
 have hx':=Qfa p.len (La hxl);obtain ⟨s1,s2⟩:=q3 x kk v hx;rw [hx] at hx';cases hx';exact ⟨Q5c (.str _) _ rfl s1,by generalize (E.getD x default).val=vv at s2;cases s2;exact .gptr _ _⟩):A:=h
theorem ae (h:A:=by
 have r1:=hH.obj 1 _ l1 e1 hl1
 let mt':Nat->Option Loc:=fun i=>if i=0 then some la else if i=1 then some l1 else none
 let ft':Nat->Prop:=fun c=>c=la.blk∨c=l1.blk
 have occ01:∀ c,ft' c->¬ NL θ' H' c:=fun c hc hn=>by
  rcases hc with rfl | rfl
  ·exact hn 0 _ la e0 rfl h0 rfl
  exact hn 1 _ l1 e1 rfl hl1 rfl
 have key:∀ i l,mt' i=some l->(i=0∧l=la)∨(i=1∧l=l1):=fun i l h=>by
  grind
 refine ⟨g,mt',ms,ft',fs,p.len,rfl,⟨fun i o l hio hl=>?_,fun i l hl=>?_,fun i hlen=>?_,fun i j li lj h1 h2 hne e=>?_⟩,fun c hc => .inr (occ01 c hc),fun i q hq=>?_,p.dis⟩
 ·exact ab
 ·grind
 ·have:2≤i:=hlen
  grind
 ·have hd:=hH.dist 0 1 _ _ la l1 e0 e1 rfl rfl h0 hl1 (by omega)
  rcases key i li h1 with ⟨rfl,rfl⟩ | ⟨rfl,rfl⟩<;>rcases key j lj h2 with ⟨rfl,rfl⟩ | ⟨rfl,rfl⟩
  ·omega
  ·exact hd _ rfl e.symm
  ·exact hd _ rfl e
  omega
 obtain ⟨g1,g2⟩:=p.cl i q hq;have nu:∀ c,fs i c->¬ ∃ i' l,mt i'=some l∧l.blk=c:=fun c hc ⟨a,l,ha,hac⟩=>(g2 c hc).2 (hac▸p.top.occ a l ha)
 exact ⟨⟨g1.lies.mono fun c hc=>⟨hc,(hkeep c (g2 c hc).1 (nu c hc)).1⟩,g1.first⟩,fun c hc=>⟨.inl (g2 c hc).1,fun ht=>occ01 c ht (hkeep c (g2 c hc).1 (nu c hc)).2⟩⟩):A:=h
theorem ah (h:A:=by obtain rfl:=Qe h;show Exists _;exact ⟨(rho [0,1,1]),Z6⟩):A:=h
theorem ai (h:A:=by
 intro i j oi oj li lj hi hj hil hjl hti htj hne c c1 c2
 rcases get i oi hi with ⟨rfl,rfl⟩ | ⟨_,_,rfl⟩ | ⟨h1,h2,h3⟩<;>rcases get j oj hj with ⟨rfl,rfl⟩ | ⟨_,_,rfl⟩ | ⟨k1,k2,k3⟩
 ·omega
 ·cases hjl
 ·have:li=ln:=by simp_all [upθ]
  subst this;obtain ⟨g1,g2⟩:=apart j oj lj k2 k3 hjl (tt j lj k1 htj) c c2
  rcases hold c c1 with h | h<;>grind
 ·cases hil
 ·omega
 ·cases hil
 ·have:lj=ln:=by simp_all [upθ]
  subst this;obtain ⟨g1,g2⟩:=apart i oi li h2 h3 hil (tt i li h1 hti) c c1
  rcases hold c c2 with h | h<;>grind
 ·cases hjl
 exact hH.dist i j oi oj li lj h3 k3 hil hjl (tt i li h1 hti) (tt j lj k1 htj) hne c c1 c2):A:=h
theorem aj (h:A:=by
 refine iR h fun h=>?_;apply iU h<;>intro h
 ·apply iU h<;>intro h
  ·exact iB h
  exact iR h fun h=>iB h
 refine iR h fun h=>?_;apply iU h<;>intro h
 ·exact iB h
 exact iR h fun h=>iB h):A:=h
theorem ak (h:A:=by
 apply iU h<;>intro h
 ·apply iU h<;>intro h
  ·exact iB h
  exact iR h fun h=>iB h
 refine iR h fun h=>?_;apply iU h<;>intro h
 ·exact iB h
 exact iR h fun h=>iB h):A:=h
theorem al (h:A:=by
 have live':∀ i o,F[i]? = some o->(F++more)[i]? = some o∧i<F.length:=fun i o hi=>⟨by grind,(Ld.1 hi).1⟩;refine hend _ (fun c hf=>?_) (fun c hf h=>?_)
 ·by_cases hcs:c<w.heap.size
  ·refine (free2 c hcs ?_).1
   have hnu:¬ used c:=fun ⟨i,l,h1,h2⟩=>by
    have hi:i<F.length:=by
     by_cases hi:i<F.length
     ·exact hi
     rw [hL.fresh i (by omega)] at h1;grind
    have ho:=La hi;refine hf.2 i _ l (live' i _ ho).1 (hlive i _ ho) (by rw [q4.old i hi];omega) ((Q14 (hL.obj i _ l ho h1) c).2 h2)
   have hb:=hf.1;rw [q4.bad] at hb
   grind
  exact newfree c (by omega) (hkeep c hf.2)
 refine newfree c ?_ hf;obtain ⟨i,o,l,hi,hio,hol,hil,hoc⟩:=h
 by_cases hcs:c<w.heap.size
 ·exfalso
  by_cases hu:used c
  ·obtain ⟨i',l',h1,h2⟩:=hu
   have hi':i'<F.length:=by
    by_cases hi':i'<F.length
    ·omega
    rw [hL.fresh i' (by omega)] at h1;grind
   have ho:=La hi';exact q3.dist i' i _ o l' l (live' i' _ ho).1 hio (hlive i' _ ho) hol (by rw [q4.old i' hi'];omega) hil (by omega) c ((Q14 (hL.obj i' _ l' ho h1) c).2 h2) hoc
  exact (q4.nl c hcs (hnlF c hu)).1 i o l hio hol hil hoc
 omega):A:=h
theorem am (h:A:=by cases h;exact (.p _)):A:=h
theorem ao (h:A:=by
 refine ⟨fun i o l hi hθ=>?_,fun i j oi oj li lj hi hj _ _ h1 h2 hne c c1 c2=>?_,fun i hi=>hL.fresh i hi,fun i o l hi _ hθ c hc hb=>?_,fun c hc=>hc.1,fun i Q e hi=>absurd hi (hnx i Q e)⟩
 ·exact Qgw (Aq (θ:=Qg8 m) (θ' := θ0) (S:=fun _=>False) (S':=Qu θ0 F) (w:=w) (w':=w) (fun _ _ e=>e) (fun _ _ e=>e.elim) (fun _=>rfl) (hL.obj i o l hi hθ))
 ·exact hL.dist i j li lj h1 h2 hne (((Q14 (hL.obj i oi li hi h1) c).1 c1).trans ((Q14 (hL.obj j oj lj hj h2) c).1 c2).symm)
 exact hb.2.2 ⟨i,l,hθ,(Q14 (hL.obj i o l hi hθ) c).1 hc⟩):A:=h
theorem ap (h:A:=by obtain rfl:=Qe h;show Exists _;exact ⟨(rho [0,1,3]),Z6⟩):A:=h
theorem aq (h:A:=by first | omega | (simp only [Q7t,orI,Qpz,Q2s,Q8t,Qcj];omega)):A:=h
theorem ar (h:A:=by refine iR h fun h=>Qd (xR h fun y19 h=>?_);refine xR h fun y21 h=>iL h fun h=>?_;show Exists _;exact ⟨(n0,(wrap .i64 (i17+1))),h,Lc _,(fun i=>i),Z6⟩):A:=h
theorem au (h:A:=by obtain rfl:=Qe h;exact (Ar (.cons (.p _) (.cons (frz_own (c:=(cI .i64)) (l:=([2]:List Int)) (fun _=>rfl) rfl trivial sd) p2)))):A:=h
theorem aw (h:A:=by
 refine main ops.size _ θ (tms 0) (pad (Hs pre.length).length (Hs 0)) a w1 (by simp) (by simp) (fun i _ hi=>by simp [Array.getD,hi]) ?_;refine ⟨hT.mono e1,Qrn hH _ _,.refl _ _ _,fun _ _=>rfl,Qlr h01,rfl,?_,?_,?_,?_⟩
 ·simp_all [Array.getD]
 ·intro t j hj hcond
  have hno:∀ i c,0≤i->i<0+j->pre[i]? = some c->c.dst≠some t:=fun i c _ hlt hc hd=>by
   have:=(hcond i c hc hd).1 (by omega)
   simp_all [Array.getD]
  have:=p.tsame (i:=0) (t:=t) j (by omega) hno
  grind
 ·intro x j hj hcond
  have hno:∀ i,0≤i->i<0+j->¬ Aff Hs es i x:=fun i _ hlt ha=>by
   have:=(hcond i (by omega) ha).1 (by omega)
   simp_all [Array.getD]
  have:=p.same (i:=0) (x:=x) (N:=(Hs pre.length).length) (Lh _) j (by omega) hno
  grind
 intro j hj _ i _;have:=p.len' (Lk j) (by omega);exact hH.fresh _ (by omega)):A:=h
theorem ay (h:A:=by
 have hnfp:¬ lt.size.testBit c=true:=fun h=>hf b _ lt hb rfl hlt h;refine ⟨fun i o l hi hol hθ=>?_,(hnl c hc fun hu=>hnfp (hused c hu)).2⟩
 rcases get i o hi with ⟨rfl,rfl⟩ | ⟨_,_,rfl⟩ | ⟨h1,h2,h3⟩
 ·have:l=ln:=by simp_all [upθ]
  subst this;intro e
  rcases hold c e with h | h<;>grind
 ·cases hol
 exact hf i o l h3 hol (tt i l h1 hθ)):A:=h
theorem az (h:A:=by
 rw [hx] at hv;cases hv
 have hlt:i<vs.length:=by rw [hvs.1];exact (Ld.1 hx).1
 have h1:=hargs.2 (i+1) vs[i] (by simp);have h2:=Q6o (S:=Qu θ H) hH (fun c h=>h) (fun a o l h=>h.elim) (hvs.2 i vs[i] x (La hlt) hx) h1;exact .p _ _ (hmp _ _ h2)):A:=h
theorem aA (h:A:=by show Exists _;exact ⟨(false),h,(fun i=>i),Z6⟩):A:=h
theorem aB (h:A:=by show Exists _;exact ⟨(true),h,(fun i=>i),Z6⟩):A:=h
theorem aC (h:A:=by
 have e2:Q5l ([F.length+n].map fun a=>(a,AObj.dead)) (F++more)=F++more.set n .dead:=by
  show (F++more).set (F.length+n) .dead=_;simp
 have kd:∀ (a:Nat) (o:AObj),(F++more.set n .dead)[a]? = some o->o.live=true->(F++more)[a]? = some o∧a≠F.length+n:=fun a o ha ho=>by
  grind
 rw [e2] at k1;refine ⟨F++more.set n .dead,⟨_,rfl⟩,fun c hc a o l ha ho hl=>hc a o l (kd a o ha ho).1 ho hl,k1,fun S h1 h2=>?_⟩;refine Q6o (S:=S) q3 h1 (fun a o l hk ha ho hl c hoc=>?_) hfz q2;refine h2 c (fun a' o' l' ha' ho' hl' hoc'=>?_) ⟨a,o,l,by omega,ha,ho,hl,hoc⟩;obtain ⟨m1,m2⟩:=kd a' o' ha' ho';exact q3.dist a' a o' o l' l m1 ha ho' ho hl' hl (by omega) c hoc' hoc):A:=h
theorem aD (h:A:=by
 intro i o l hi hol hθ c hc
 rcases get i o hi with ⟨rfl,rfl⟩ | ⟨_,_,rfl⟩ | ⟨h1,h2,h3⟩
 ·have:l=ln:=by simp_all [upθ]
  subst this;intro hbad
  rcases hold c hc with h | h
  ·exact hH.good b _ lt hb rfl hlt c h hbad
  have:=hH.badlt c hbad;omega
 ·cases hol
 exact hH.good i o l h3 hol (tt i l h1 hθ) c hc):A:=h
theorem aE (h:A:=by
 obtain ⟨t,want⟩:=tb;rw [hgc] at h hg
 cases hgo:o.guard with
 | none=>simp_all [Wd]
 | some jb=>
  obtain ⟨j2,b⟩:=jb;rw [hgo] at hg;simp only [Wd,Le,Aj] at hg;obtain ⟨rfl,hj2⟩:=hg;simp only [Q41] at h;generalize hvt:tm.getD t .any=vt at h;split at h
  ·rename_i x;obtain ⟨cv,e1,e2,e3⟩:=Q63 hT hvt (by simp);have:=Q8h e3;subst this;have hk1:=hT.known e2
   grind [yielded,Qa7,Q4i,Region.wanted]
  ·obtain ⟨cv,e1,e2,e3⟩:=Q63 hT hvt (by simp)
   have hcv:cv = .tuple #[]:=by
    cases e3 with
    | p _ _ hp=>
     cases hp<;>simp_all
   grind [yielded,Region.wanted]
  exact h.elim):A:=h
theorem aF (h:A:=by
 intro i o l hi hθ
 rcases get i o hi with ⟨rfl,rfl⟩ | ⟨_,_,rfl⟩ | ⟨h1,h2,h3⟩
 ·have:l=ln:=by simp_all [upθ]
  subst this;exact ⟨⟨la,hext _ _ hla,hrepN⟩,fun c hc=>((hN c).1 hc).1⟩
 ·trivial
 have hr0:=hH.obj i o l h3 (tt i l h1 hθ)
 exact hr0.mono hext free2 (fun hol c hc=>by
  grind) q4.size):A:=h
theorem aG (h:A:=by repeat' first | exact rN | refine rE rfl ?_ | refine rA ?_ | refine rS ?_ | refine rL (by first | (simp;done) | (simp [Q7];done) | (simp<;>omega)) rfl ?_):A:=h
theorem aH (h:A:=by intro g cs hg;obtain ⟨g1,g2,vs',g3,g4,g5⟩:=hG g cs hg;exact ⟨g1,hfree g g2,vs',g3,g4,fun j x hx=>⟨(g5 j x hx).1,hmp _ _ (g5 j x hx).2⟩⟩):A:=h
theorem aI (h:A:=by obtain rfl:=Qe h;exact (Ar (.cons (.p _) p5))):A:=h
theorem aJ (h:A:=by intro g cs hg;obtain ⟨g1,g2,vs',g3,g4,g5⟩:=hG g cs hg;exact ⟨g1,hfree g g2,vs',g3,g4,fun j x hx=>⟨(g5 j x hx).1,(g5 j x hx).2.mono (fun c _ hf=>⟨hfree c hf,rfl⟩)⟩⟩):A:=h
theorem aK (h:A:=by
 have e:(fun i=>listed.getD i false=true∨i=j)=(fun i=>(listed.setIfInBounds j true).getD i false=true):=by
  funext i
  apply propext
  by_cases hij:i=j
  ·simp_all [Array.getD]
  simp only [hij,or_false];rw [getD_set_ne false (fun e=>hij e.symm)]
 grind):A:=h
theorem aL (h:A:=by obtain rfl:=Qe h;exact (Ar (.cons (.p _) (.cons (frz_own (c:=(cI .i64)) (l:=([3,16]:List Int)) (fun _=>rfl) rfl trivial sd) p2)))):A:=h
theorem aM (h:A:=by
 rename_i x h2;split at he
 ·rename_i h3;have q:=Q4e args pa h1;have hp:=Gs hkn (hEV x) h2;exact .inl ⟨Q5i H args,[],.p x,fun s h=>(by cases h),fun H2 hH2=>Qdl hp ⟨q.1,fun i v x hv hx=>Qeh (fun a o hk ho=>⟨trivial,hH2 a hk o ho⟩) (q.2 i v x hv hx)⟩ h3 ⟨rfl,rfl⟩,hk _ _ _ _ he⟩
 refine G8 hkn hEA hk (fun hz=>?_) he;split at hz
 ·rename_i hR;have q:=Q4e args pa h1;have hp:=Gs hkn (hEV x) h2;exact Qlb _ hp q (fun a ha=>by simp_all) (hk _ _ _ _ hz)
 simp_all):A:=h
theorem aN (h:A:=by
 rw [Lp (fun e=>hj e.symm)] at hq;obtain ⟨g1,g2⟩:=p.cl j q hq
 refine ⟨⟨⟨g1.lies.obj,fun a l ha=>⟨g1.lies.occ a l ha,a,l,ha,rfl⟩,g1.lies.fresh,g1.lies.dist⟩,g1.first⟩,fun c hc=>⟨(g2 c hc.1).1,?_⟩⟩
 rintro ⟨a,l,ha,hac⟩
 by_cases h2:a<2
 ·simp only [mF,Af h2] at ha;exact (g2 c hc.1).2 (hac▸p.top.occ a l ha)
 simp only [mF,Ae h2] at ha;exact p.dis j i c (Ld.1 hq).1 hil hj hc.1 (hac▸hci.lies.occ _ l ha)):A:=h
theorem aO (h:A:=by
 rw [Ae (Ac g10)];refine Az (fun g=>?_) (fun g7=>?_)
 ·simp_all
 refine Az (fun g=>?_) (fun g26=>?_)
 ·simp_all
 have g7:=Ac g7;have g26:=Ac g26;rw [Ae (by omega)];refine Az (fun g=>?_) (fun g18=>?_)
 ·simp_all
 refine Az (fun g=>?_) (fun g20=>?_)
 ·simp_all
 have g18:=Ac g18;have g20:=Ac g20;rw [Ae (by omega)];refine Az (fun g=>?_) (fun g2 => .ret (by simp_all));rw [Af (Aa g)];exact Az (fun g => .ret (by grind)) (fun g => .ret (by grind))):A:=h
theorem aP (h:A:=by
 have newfree:∀ c,w.heap.size≤c->NL θ' (F++more2) c->Qu (upθ θ n ln) (H.set b .dead ++ [.ext R a]) c:=fun c hc hf=>by
  refine ⟨fun hb=>?_,fun i o l hi hol hθ e=>?_⟩
  ·have:=hH.badlt c hb;omega
  rcases get i o hi with ⟨rfl,rfl⟩ | ⟨_,_,rfl⟩ | ⟨h1,h2,h3⟩
  ·have:l=ln:=by simp_all [upθ]
   subst this
   rcases ((hN c).1 e).2 with h | h<;>grind
  ·cases hol
  grind
 exact al):A:=h
theorem aQ (h:A:=by
 intro f cargs hf;unfold Qm8 at hf
 cases hfn:P.funcs[f]? with
 | none=>simp_all
 | some fn=>
  simp only [hfn,Mw,Le,bne_iff_ne,ne_eq] at hf;obtain ⟨hb,hn⟩:=hf
  have hb':fn.body.isNone=false:=by simp_all
  have hn':(fn.name == "runtime.NumGoroutine")=false:=by simp_all
  have hpr:(program).run P w = .ok P w:=rfl;simp only [callFunc,Sem.run_bind,hpr,Result.andThen,hfn,hn',hb'];rfl):A:=h
theorem aR (h:A:=by obtain ⟨C,t,fz,q1,q2,q3,q4,q5⟩:=r0;have:=(q5 0 (.map 1) rfl).1;generalize C.getD (la.off+0) Qr=vv at this;cases this<;>simp_all):A:=h
theorem aS (h:A:=by
 exfalso;apply hall;intro j
 induction j using Nat.strongRecOn with
 | _ j ihj=>
  intro hj;apply Lo;intro hn
  have hjs:j<ops.size:=by omega
  have ho:=Me hjs;have hc:=La hj
  have:j∈Region.ready .any ops listed:=by
   rw [mem_ready];refine ⟨?_,_,ho,fun e he hb=>?_⟩
   ·grind
   have hlt:=(p.edge j _ _ ho hc).1 e he hb
   grind
  grind):A:=h
theorem aT (h:A:=by
 intro x y ox oy lx ly hx hy hxl hyl htx hty hne
 have key:∀ (z:Nat) (oz:AObj),(H.set a o')[z]? = some oz->oz.live=true->∃ oz',H[z]? = some oz'∧oz'.live=true∧∀ l c,oz.occ l c->oz'.occ l c:=by grind
 obtain ⟨ox',hx',hxl',hxo⟩:=key x ox hx hxl;obtain ⟨oy',hy',hyl',hyo⟩:=key y oy hy hyl;exact fun c h1 h2=>h.dist x y ox' oy' lx ly hx' hy' hxl' hyl' htx hty hne c (hxo _ _ h1) (hyo _ _ h2)):A:=h
theorem aU (h:A:=by obtain rfl:=Qe h;exact u2):A:=h
theorem aV (h:A:=by obtain rfl:=Qe h;exact ⟨1,rfl,(Au (.cons (Ar (.cons (.nil _) (f8_ (f2_ (.cons (.p _) p5))))) p1))⟩):A:=h
theorem aW (h:A:=by
 rename_i hv
 rcases hr with ⟨R,sets,r,h1,h2,h3⟩ | ⟨R,obs,r,A,h1,h2,h3⟩
 ·rw [Q0y] at h3;refine .inl ⟨R,sets,r,h1,fun tm' H2 ht hR=>?_,h3⟩;obtain ⟨e2,e3⟩:=e1 tm' ht;simp only [Q11,Qsh _ _ _ _ _ _ (hv' tm' ht),Q1x,Zg,Q40,Jr,e2,e3,hv];exact h2 H2 hR
 rw [Q0y] at h3;refine .inr ⟨R,obs,r,A,h1,fun tm' H2 ht hR=>?_,h3⟩<;>grind [Qdp]):A:=h
theorem aX (h:A:=by
 refine Ma ?_ hcnt;have hd:(listed.toList.drop pre.length).count false≤listed.toList.count false:=List.Sublist.count_le _ (List.drop_sublist _ _);refine Ma ?_ hd
 have:listed.toList.drop pre.length=List.replicate (suf.length+1) false:=by
  apply Lw;intro i;rw [Mx,My];split
  ·simp_all
  grind
 rw [this];simp):A:=h
theorem aY (h:A:=by show Exists _;exact ⟨(),h,(fun i=>i),Z6⟩):A:=h
theorem aZ (h:A:=by
 refine { toPath:=hpath,size:=by omega,apart:=fun i i' c c' hlt hc hc'=>?_,op:=fun i o c ho hc=>hop i o c ho (inpre hc).2,edge:=fun i o c ho hc=>?_,slot:=fun i c t hc hd j d hj hne=>?_ }
 ·grind
 ·obtain ⟨q1,q2⟩:=hed i o c ho (inpre hc).2<;>grind [Qfy]
 have:=Q8o _ 0 hst.2 i c t (inpre hc).2 hd j d (inpre hj).2 (by omega)
 grind):A:=h
theorem bb (h:A:=by exact ⟨fun e=>(by subst e;rw [Tryz.underlying136] at h;cases h),fun e=>(by subst e;rw [Tryz.underlying37] at h;cases h)⟩):A:=h
theorem bc (h:A:=by refine Q8 Z1p (Q8 Qw4 ?_);refine Q8 Qs9 (cP h Jn p1 fun v2 h=>?_);exact ah):A:=h
theorem bd (h:A:=by
 rw [g];refine Ay (v:=(Qc1 R cl d.Msg.TopicID,R)) (.of fun _=>rfl) ?_;refine Az (fun g=>?_) (fun g=>?_)
 ·rw [Af (Aa g)];exact .ret rfl
 rw [Ae (Ac g)];refine Ay (v:=(Qc9 R cl d.Msg.TopicID,R)) (.of fun _=>rfl) ?_;refine Az (fun g=>?_) (fun g=>?_)
 ·rw [Ae (by simp_all)];exact .ret rfl
 rw [Af (by simp_all)];exact .ret rfl):A:=h
theorem bf (h:A:=by
 intro i Q e hi
 rcases get i _ hi with ⟨rfl,_⟩ | ⟨_,_,h⟩ | ⟨h1,h2,h3⟩
 ·simp_all [upθ]
 ·cases h
 exact (hH.tok i Q e h3).imp fun _ h=>hext _ _ h):A:=h
theorem bg (h:A:=by refine Qd (Qd ?_);obtain rfl:=Qe h;exact ⟨10,rfl,(Au (.cons (Ar (f8_ (.cons (.nil _) (.cons (.p _) (.cons (frz_own (c:=Vc.cells) (l:=(v6:List Vc)) (fun _=>rfl) rfl (by decide) sd) (Vl (f4_ (.cons (.nil _) (f2_ (.cons (.nil _) (.cons (.nil _) (.cons (.nil _) (Vl (f2_ (f1_ (.cons (.nil _) .nil)))))))))))))))) p1))⟩):A:=h
theorem bh (h:A:=by
 generalize Q9 tm x'=vx at hs hrx;generalize hax:a.eval x=ax at hrx;split at hs
 ·simp only [Qv,Lb,Lg] at hs;cases hrx<;>simp_all
 ·simp only [Qv,Lb,Lg] at hs
  cases hrx with
  | p _ _ hp=>
   cases hp<;>simp_all
 ·simp only [Qv,Lb,Lg] at hs
  cases hrx with
  | p _ _ hp=>
   cases hp<;>simp_all
 simp_all):A:=h
theorem bi (h:A:=by obtain rfl:=Qe h;exact ⟨1,rfl,(Au (.cons (Ar (f8_ (.cons (.nil _) (.cons (.p _) (.cons (frz_own (c:=Vc.cells) (l:=(v6:List Vc)) (fun _=>rfl) rfl (by decide) sd) (Vl (f4_ (.cons (.nil _) (f2_ (.cons (.nil _) (.cons (.nil _) (.cons (.nil _) (Vl (f2_ (f1_ (.cons (.nil _) .nil)))))))))))))))) p1))⟩):A:=h
theorem bj (h:A:=by obtain rfl:=Qe h;exact ⟨9,rfl,(Au (.cons (Ar (.cons (.nil _) (f8_ (f2_ (.cons (.p _) p5))))) p1))⟩):A:=h
theorem bn (h:A:=by simp_all [execOp,Instr.sliceAt,Instr.slice,Instr.sliceBounds,Instr.sliceBound,run_underlying,asIntOf]):A:=h
theorem bo (h:A:=by
 intro i hi;simp at hi
 have:i≠n:=by omega
 simp only [upθ,Ae this];exact hH.fresh i (by omega)):A:=h
theorem bp (h:A:=by
 intro l
 induction l with
 | nil=>simp
 | cons u us ih=>
  grind [refsLt.refsLts]):A:=h
theorem bq (h:A:=by
 intro listed θ' tm' H' a' w' hls hcnt hun inv;exfalso
 have hlt:pre.length<listed.size:=by omega
 have hq:=hun pre.length (Lh _) (by omega)
 have:false∈listed.toList:=by
  rw [Mu];refine ⟨pre.length,?_⟩;simp [Array.getD,hlt] at hq;simp [hlt,hq]
 grind):A:=h
theorem br (h:A:=by
 refine Qd (Q7a [] (r:=iI 0) rfl rfl (fun a ha o ho=>?_) (Q8 Z5b ?_) ?_)
 ·simp at ha
 ·exact Q8 Z7v ⟨rfl,[],(Na _).symm⟩
 refine Q7a [] (r:=iS []) rfl rfl (fun a ha o ho=>?_) (Q8 Qw4 ?_) ?_
 ·simp at ha
 ·exact Q8 Qs9 ⟨rfl,[],(Na _).symm⟩
 exact ah):A:=h
theorem bt (h:A:=by
 refine ⟨by rw [hargs.1];simp [hvs.1],fun i v hv=>?_⟩
 cases i with
 | zero=>
  simp at hv;subst hv;rw [hcv];exact .ptr 0 0 la m0
 | succ i=>
  simp only [Nf,Ll] at hv
  cases hx:args[i]? with
  | none=>grind
  | some x=>
   exact az):A:=h
theorem bu (h:A:=by obtain rfl:=Qe h;exact (frz_own (c:=(cI .i64)) (l:=([8]:List Int)) (fun _=>rfl) rfl trivial sd)):A:=h
theorem bw (h:A:=by refine dF ?_;obtain rfl:=Qe h;show Exists _;exact ⟨(rho [0,1,5]),Z6⟩):A:=h
theorem bx (h:A:=by obtain rfl:=Qe h;show Exists _;exact ⟨(rho [0,1,2]),Z6⟩):A:=h
theorem bz (h:A:=by
 refine Qk hH (hrunE.trans (by rw [hrun];rfl)) ?_;cases ok
 ·exact hzv
 refine .tuple _ _ rfl (fun i x hx=>?_)
 match i,hx with
 | 0,hx=>simp at hx;subst hx;exact hzv
 | 1,hx=>simp at hx;subst hx;exact Q0d false):A:=h
theorem bA (h:A:=by exact iL2 h fun h=>iL2 h fun h=>iR2 h fun h=>iB2 h):A:=h
theorem bB (h:A:=by
 have e0:(U8 R g++more)[0]? = some (.cells [.map 1]):=rfl;have e1:(U8 R g++more)[1]? = some (.map (gm R g)):=rfl;generalize U8 R g++more=H' at e0 e1;intro w' θ' hH h0 _ hkeep;have r0:=hH.obj 0 _ la e0 h0
 obtain ⟨l1,hl1⟩:∃ l1,θ' 1=some l1:=aR
 exact ae):A:=h
theorem bC (h:A:=by
 have e:A++cl.args.map a.eval++B=(A.toList++(cl.args.toList.map a.eval++B.toList)).toArray:=by simp
 refine fin fid _ (A++cl.args.map a.eval++B) hcall (by rw [e];exact (hA.append (hrl.append hB)).args) ?_
 grind [execOp,resolve,Deferred.ofValue,invoke]):A:=h
theorem bD (h:A:=by obtain rfl:=Qe h;exact (Ar (.cons (.p _) (.cons (frz_own (c:=(cI .i64)) (l:=([1,2]:List Int)) (fun _=>rfl) rfl trivial sd) p2)))):A:=h
theorem bE (h:A:=by
 refine Qk hH (hrunE.trans (by rw [hrun];rfl)) ?_;cases ok
 ·exact hv0
 refine .tuple _ _ rfl (fun i x hx=>?_)
 match i,hx with
 | 0,hx=>simp at hx;subst hx;exact hv0
 | 1,hx=>simp at hx;subst hx;exact Q0d true):A:=h
theorem bF (h:A:=by first | (cases h;done) | (simp [Qcm] at h;done)):A:=h
theorem bG (h:A:=by
 rename_i x cells' h2;have hm:=Qb0 hkn (hEV _) h2;refine .inl ⟨[a],[(a,.cells (cells'.map .p))],.p x,fun s hs=>?_,fun H2 hH2=>?_,hk _ _ _ _ he⟩
 ·grind
 refine Qbb hm ?_ (Q2y rest pr h1) ⟨rfl,rfl⟩<;>grind [Qm3]):A:=h
theorem bH (h:A:=by
 refine Q8 Qpx ?_;apply iU h<;>intro h
 ·exact Q8 Qpx (iB2 h)
 exact Q8 Qpx (iB2 h)):A:=h
theorem bI (h:A:=by
 refine inv.goes p ((hG.evo e1).evo inv.evo) hjp ho (by grind) he (fun θ2 tm2 H2 a2 w2 inv2=>ih _ θ2 tm2 H2 a2 w2 (by grind) ?_ ?_ ?_)
 ·grind
 ·intro i hi1 hi2;rw [getD_set_ne false (by omega:j≠i)]
  grind
 exact aK):A:=h
theorem bJ (h:A:=by obtain rfl:=Qe h;exact ⟨_,_,rfl,p1,(.p _)⟩):A:=h
theorem bK (h:A:=by obtain rfl:=Qe h;exact ⟨10,rfl,(Au (.cons (Ar (f8_ (.cons (.nil _) (.cons (.p _) (.cons (.nil _) (Vl (f4_ (.cons (.nil _) (f2_ (.cons (.nil _) (.cons (.nil _) (.cons (.nil _) (Vl (f2_ (f1_ (.cons (.nil _) .nil)))))))))))))))) p1))⟩):A:=h
theorem bL (h:A:=by obtain rfl:=Qe h;exact ⟨1,rfl,(Au (.cons (Ar (f8_ (.cons (.nil _) (.cons (.p _) (.cons (.nil _) (Vl (f4_ (.cons (.nil _) (f2_ (.cons (.nil _) (.cons (.nil _) (.cons (.nil _) (Vl (f2_ (f1_ (.cons (.nil _) .nil)))))))))))))))) p1))⟩):A:=h
theorem bM (h:A:=by obtain rfl:=Qe h;exact ⟨9,rfl,(Au (.cons (Ar (f8_ (.cons (.nil _) (.cons (.p _) (.cons (.nil _) (Vl (f4_ (.cons (.nil _) (f2_ (.cons (.nil _) (.cons (.nil _) (.cons (.nil _) (Vl (f2_ (f1_ (.cons (.nil _) .nil)))))))))))))))) p1))⟩):A:=h
theorem bO (h:A:=by simp only [execOp,ho,hax,hc0,hg,Sem.run_bind,Sem.run_pure,Result.andThen,hb];simp):A:=h
theorem bQ (h:A:=by
 cases hrf with
 | p _ _ hp=>
  cases hp with
  | func _ _ _ A B hA hB hav hbv=>
   exact ⟨_,A,B,_,_,rfl,.ofP (by omega) (fun i x hx=>by simp_all),.ofP (by omega) (fun i x hx=>by simp_all),h⟩):A:=h
theorem bR (h:A:=by
 intro b ob lb hb hbl hlb
 by_cases he:b=a
 ·subst he;rw [Lt (Ld.1 ha).1] at hb;cases hb;exact fun c hc=>h.good b o lb ha hlive hlb c (hoc hbl _ _ hc)
 rw [Lp (fun e=>he e.symm)] at hb;exact h.good b ob lb hb hbl hlb):A:=h
theorem bS (h:A:=by grind [w64]):A:=h
theorem bT (h:A:=by rw [Ly];omega):A:=h
theorem bU (h:A:=by exact G8 hkn hEA hk (fun h=>Q5x hkn hEH hk h) he):A:=h
theorem bV (h:A:=by
 exact hed.closed (L:=fun i=>listed.getD i false=true) (j:=j) (fun i c b _ hc hL hb=>by
  by_cases hip:i<pre.length
  ·rw [Lm hip] at hc;exact inv.clo i c b hc hL hb
  grind) ho hcj he hb):A:=h
theorem bW (h:A:=by rw [cX] at h;exact iR h fun h=>iR h fun h=>iB h):A:=h
theorem bX (h:A:=by
 simp only [ha] at hk;refine Je (Q2w ha) ⟨(k,IntKind.wrap .i64 (s+1)),(by simp_all [Z4u]),Lc _,fun i=>i,?_⟩;refine Zbh [_] rfl ?_ rfl
 repeat' first | exact rN | refine rA ?_ | refine rE rfl ?_):A:=h
theorem bY (h:A:=by rename_i v;cases v<;>rfl):A:=h
theorem bZ (h:A:=by
 cases Q9 tm x<;>try rfl
 rename_i v
 cases v<;>try (cases Q9 tm y<;>rfl)
 cases Q9 tm y<;>try rfl
 rename_i u
 cases u<;>try rfl
 rename_i s i c;simp only [Jt];cases i == IntKind.u8<;>rfl):A:=h
theorem cc (h:A:=by simp [DataW.TrodAll] at h):A:=h
theorem cd (h:A:=by
 have:=hed.closed (L:=fun i=>i<ops.size∧listed.getD i false=true) (j:=j) (fun i c b hi hc hL hb=>by
   grind) ho hcj (fun e he1 he2=>by
   grind) hb
 have:=(hli m this.1).1 this.2;omega):A:=h
theorem cg (h:A:=by show Exists _;exact ⟨(n0,(wrap .i64 (i17+1))),h,Lc _,(fun i=>i),Z6⟩):A:=h
theorem cj (h:A:=by show Exists _;exact ⟨(n0,(wrap .i64 (i62+1))),h,Lc _,(fun i=>i),Z6⟩):A:=h
theorem cn (h:A:=by show Exists _;exact ⟨(n0,(wrap .i64 (s36+1))),h,Lc _,(fun i=>i),Z6⟩):A:=h
theorem cp (h:A:=by generalize cargs.getD 0 Qr=cv at hp0;cases hp0<;>simp_all):A:=h
theorem cw (h:A:=by simp [COp.slots,h]):A:=h
theorem cy (h:A:=by
 refine iR h fun h=>?_;apply iU h<;>intro h
 ·exact ak
 exact aj):A:=h
theorem cA (h:A:=by obtain rfl:=Qe h;exact (frz_own (c:=(cI .i64)) (l:=([5]:List Int)) (fun _=>rfl) rfl trivial sd)):A:=h
theorem cC (h:A:=by
 rw [mem_ready]
 have hlm:m<listed.size:=by omega
 refine ⟨?_,_,hom,fun e he hb=>?_⟩
 ·grind
 have:=(hed m _ c hom hcm).1 e he hb
 grind):A:=h
theorem cE (h:A:=by refine dF ?_;exact ap):A:=h
theorem cH (h:A:=by generalize a.eval x=ax at hrx;cases hrx<;>simp_all):A:=h
theorem cK (h:A:=by simp_all [Q0]):A:=h
theorem cN (h:A:=by
 cases hrf with
 | func _ _ _ A B hA hB hav hbv=>
  exact ⟨_,A,B,_,_,rfl,⟨by omega,fun i x hx=>by simp_all⟩,⟨by omega,fun i x hx=>by simp_all⟩,h⟩):A:=h
theorem cR (h:A:=by simp [Builtin.delete_,hty,run_underlying ht,MapKept.run_getObj_map hE,Q0n hd hk,MapKept.run_findKey hd hnow,MapKept.run_setObj_map _ hE,Result.andThen]):A:=h
theorem cT (h:A:=by
 intro i hi
 have hlm:m<listed.size:=by omega
 by_cases him:i=m
 ·simp_all
 rw [getD_set_ne false (fun e=>him e.symm),hli i hi];omega):A:=h
theorem cU (h:A:=by obtain rfl:=Qe h;exact ⟨1,rfl,(Au (.cons (Ar (.cons (frz_own (c:=Vc.cells) (l:=(v7:List Vc)) (fun _=>rfl) rfl (by decide) sd) (f8_ (f2_ (.cons (.p _) p5))))) p1))⟩):A:=h
theorem cV (h:A:=by obtain rfl:=Qe h;exact ⟨9,rfl,(Au (.cons (Ar (.cons (frz_own (c:=Vc.cells) (l:=(v7:List Vc)) (fun _=>rfl) rfl (by decide) sd) (f8_ (f2_ (.cons (.p _) p5))))) p1))⟩):A:=h
theorem cW (h:A:=by show Exists _;exact ⟨(n0,(wrap .i64 (s107+1)),((l108:List Int).set (Int.toNat y111.ID) (wrap .i64 (y118+1))),(l109 ++ [(wrap .u8 y111.ID)])),h,Lc _,(rho [0,5]),Z6⟩):A:=h
theorem cZ (h:A:=by show Exists _;exact ⟨(n0,(wrap .i64 (s107+1)),((l108:List Int).set (Int.toNat y111.ID) (wrap .i64 (y142+1))),(l109 ++ [(wrap .u8 y111.ID)])),h,Lc _,(rho [0,5]),Z6⟩):A:=h
theorem db (h:A:=by
 show cond (Q0 .lss (a.length:Int) ((Q7 Z5.cells a).length:Int)) _ _=_
 simp_all [Q6,Qn]):A:=h
theorem de (h:A:=by rw [cX] at h;refine iR h fun h=>Qd (xR h fun y17 h=>?_);refine xR h fun y19 h=>iL h fun h=>?_;show Exists _;exact ⟨(n0,(wrap .i64 (s15+1))),h,Lc _,(fun i=>i),Z6⟩):A:=h
theorem df (h:A:=by simp_all [Op.equalIn,run_underlying]):A:=h
theorem dh (h:A:=by simp_all [upθ]):A:=h
theorem di (h:A:=by rw [hd];exact (hT1.mono hE'.toEvo).put c.dst hrv):A:=h
theorem dj (h:A:=by
 by_cases h:a<n
 ·exact h
 rw [hH.fresh a (by omega)] at hla;simp_all):A:=h
theorem dl (h:A:=by cases h<;>simp_all):A:=h
theorem dm (h:A:=by cases h with | p _ _ h=>cases h;rfl):A:=h
theorem dn (h:A:=by grind [IntKind.wrap_i64]):A:=h
theorem dp (h:A:=by
 have hq:Q .normal a w:=hQ tm H θ a w h hT hH hE
 cases fuel with
 | zero=>exact ⟨hr,hq⟩
 | succ f=>exact ⟨fun _=>hq,fun j hj=>by simp_all⟩):A:=h
theorem dq (h:A:=by rename_i x h2;have hp:=Gs hkn (hEV x) h2;exact .inl ⟨[],[],.p x,fun s h=>(by cases h),fun H2 _=>Uo hp (Q2y args pa h1) ⟨rfl,rfl⟩,hk _ _ _ _ he⟩):A:=h
theorem dr (h:A:=by cases h;assumption):A:=h
theorem dt (h:A:=by exact iL h fun h=>iB h):A:=h
theorem du (h:A:=by refine Q8 Qxh ?_;obtain rfl:=Qe h;exact (Ar (.cons (.p _) (.cons (frz_own (c:=(cI .i64)) (l:=([1,2,15]:List Int)) (fun _=>rfl) rfl trivial sd) p2)))):A:=h
theorem dv (h:A:=by
 cases r with
 | none=>
  simp only [Jr,Q1u,Q3v];cases sOf agg (z.map AV.p)<;>cases ok<;>rfl
 | some r=>cases ok<;>rfl):A:=h
theorem dw (h:A:=by show Stp _ _ _ (fun N n=>cond (Q0 .lss (l.length:Int) ((Q7 cS l).length:Int)) _ _);rw [Q6,Qn,Ab (by omega)];refine AC ?_;rw [← hJ,Mm (Lh _)];rfl):A:=h
theorem dx (h:A:=by
 cases e3 with
 | p _ _ hp=>
  cases hp<;>simp_all):A:=h
theorem dy (h:A:=by
 rcases hna with h | ⟨h,h'⟩
 ·exact .inl (by simp_all)
 refine .inr ⟨?_,h'⟩
 grind):A:=h
theorem dz (h:A:=by simp [Instr.lookup,run_underlying ht,MapKept.run_getObj_map hE,Q0n hd hk,MapKept.run_findKey hd hnow,hzr,Result.andThen]):A:=h
theorem dA (h:A:=by
 cases ht:kn.tab f with
 | none=>simp_all
 | some cf=>
  simp only [ht] at he;exact Q8 (hkn.tab f cf ht) (Q5u (ih β r) hk he)):A:=h
theorem dC (h:A:=by refine dF ?_;obtain rfl:=Qe h;show Exists _;exact ⟨(rho [0,1,6]),Z6⟩):A:=h
theorem dD (h:A:=by simp only [reduceCtorEq,false_and,exists_false,iff_false];exact fun h=>h):A:=h
theorem dE (h:A:=by show Exists _;exact ⟨(n0,(wrap .i64 (s19+1))),h,Lc _,(fun i=>i),Z6⟩):A:=h
theorem dG (h:A:=by simp [Instr.lookup,run_underlying ht,MapKept.run_getObj_map hE,Q0n hd hk,MapKept.run_findKey hd hnow,Result.andThen]):A:=h
theorem dH (h:A:=by grind [Nat.ble_eq]):A:=h
theorem dJ (h:A:=by
 rcases this with ⟨o0,g1,g2⟩ | ⟨_,g2⟩
 ·exact ⟨o0,g1,g2,by rw [g2.live];omega⟩
 rw [hH.fresh _ g2] at hθ;simp_all):A:=h
theorem dK (h:A:=by show Frz _ _ _ _;exact aI):A:=h
theorem dN (h:A:=by
 apply iU h<;>intro h
 ·exact ak
 exact aj):A:=h
theorem dQ (h:A:=by obtain rfl:=Qe h;exact (Ar (.cons (.p _) (.cons (frz_own (c:=(cI .i64)) (l:=([1]:List Int)) (fun _=>rfl) rfl trivial sd) p2)))):A:=h
theorem dR (h:A:=by cases b<;>simp [Qpv] at h;simp_all):A:=h
theorem dU (h:A:=by grind [List.take_succ_eq_append_getElem]):A:=h
theorem dV (h:A:=by cases hrk with | p _ _ h=>exact h):A:=h
theorem dW (h:A:=by rcases hq with rfl | rfl | rfl | rfl<;>rcases ht with rfl | rfl | rfl<;>cases d<;>cases r<;>cases w<;>cases c<;>decide):A:=h
theorem dX (h:A:=by show d.Hops[i]? = _;simp):A:=h
theorem dY (h:A:=by simp [AV.toPV] at h):A:=h
theorem dZ (h:A:=by simp_all [Region.wanted]):A:=h
theorem d0 (h:A:=by
 split at hs
 ·cases hs
 split at hs
 ·grind
 ·cases hz:sOf g (z.map .p)<;>grind
 simp_all):A:=h
theorem d5 (h:A:=by cases o<;>first | (cases hlv;done) | trivial):A:=h
theorem d6 (h:A:=by have hr:=Qe h;subst hr;exact (.p _)):A:=h
theorem d7 (h:A:=by intro c hc;exact Lu (hH.badlt c hc) q4.size):A:=h
theorem d8 (h:A:=by rw [hd];exact hT1.put c.dst Q4n):A:=h
theorem d9 (h:A:=by
 have hf:a.eval (.func g) = .func (.func g) #[] #[]:=rfl
 simp_all [execOp,resolve,Deferred.ofValue,invoke]):A:=h
theorem ed (h:A:=by
 cases e with
 | normal=>exact Qaz (ih β r) b v H' kO kP hk hv
 | exit i=>simp_all
 | ret=>simp_all):A:=h
theorem ee (h:A:=by obtain rfl:=Qe h;exact ⟨_,_,rfl,p1,u3⟩):A:=h
theorem ek (h:A:=by refine ⟨fun hb=>hlt (hH.badlt c hb),fun a o l ha hl hθ e=>?_⟩;have:=(hH.obj a o l ha hθ).lt hl c e;omega):A:=h
theorem en (h:A:=by
 show cond (Q0 .lss (i:Int) ((Q7 Vc.cells a).length:Int)) ((idx a (i:Int)).bind _) _=_
 simp_all [Q6,Qn,Z0]):A:=h
theorem eo (h:A:=by
 show cond (Q0 .lss (i:Int) ((Q7 Z5.cells a).length:Int)) ((idx a (i:Int)).bind _) _=_
 simp_all [Q6,Qn,Z0]):A:=h
theorem er (h:A:=by have:=Q4.szs_mem _ y hy;omega):A:=h
theorem eu (h:A:=by simp_all [Q53]):A:=h
theorem ey (h:A:=by simp_all [Q5o]):A:=h
theorem ez (h:A:=by
 have hlt:i<cs.length:=by grind
 exact ih i cs[i] u (La hlt) hu _ (lts ds hr i u hu) (hv i _ (La hlt))):A:=h
theorem eA (h:A:=by simpa using RelVs.nil):A:=h
theorem eB (h:A:=by
 simp only [Nf,Ll] at hv
 cases hx:args[i]? with
 | none=>simp_all
 | some x=>
  exact az):A:=h
theorem eD (h:A:=by simp_all [execOp,Instr.sliceAt,Instr.sliceBounds,Instr.sliceBound,Instr.sureAddr,run_underlying,asIntOf]):A:=h
theorem eE (h:A:=by apply Lw;intro t;exact inv.sl t pre.length (Lh _) (fun i c hc _=>hallI i (Ld.1 hc).1)):A:=h
theorem eF (h:A:=by obtain rfl:=Qe h;exact ⟨8,rfl,(Au (.cons (Ar (.cons (.nil _) (f8_ (f2_ (.cons (.p _) p5))))) p1))⟩):A:=h
theorem eG (h:A:=by
 apply iU h<;>intro h
 ·exact aB
 show Exists _;exact ⟨((Ql6 .eql e.QoS 2)),h,(fun i=>i),Z6⟩):A:=h
theorem eH (h:A:=by
 cases hrx with
 | p _ _ hp=>
  cases hp<;>simp_all):A:=h
theorem eI (h:A:=by refine AG (fun _=>?_) (fun h=>by cases h);refine AH (chk (acc.length+1) (by omega)) ?_;exact AC hacc):A:=h
theorem eJ (h:A:=by
 generalize a.eval x=ax at hrx
 cases hrx with
 | p _ _ h=>cases h;rfl):A:=h
theorem eK (h:A:=by obtain rfl:=Qe h;exact (frz_own (c:=(cI .i64)) (l:=([1,8,7]:List Int)) (fun _=>rfl) rfl trivial sd)):A:=h
theorem eL (h:A:=by obtain rfl:=Qe h;exact (frz_own (c:=(cI .i64)) (l:=([1,8,9]:List Int)) (fun _=>rfl) rfl trivial sd)):A:=h
theorem eM (h:A:=by obtain rfl:=Qe h;exact (frz_own (c:=(cI .i64)) (l:=([7,8,5]:List Int)) (fun _=>rfl) rfl trivial sd)):A:=h
theorem eN (h:A:=by rw [cX] at h;refine iR h fun h=>xR h fun y19 h=>iL h fun h=>xR h fun y22 h=>iL h fun h=>?_;exact cg):A:=h
theorem eO (h:A:=by simp_all [execOp,resolve,invoke,builtin]):A:=h
theorem eP (h:A:=by exact .ret rfl):A:=h
theorem eQ (h:A:=by rw [Lp (fun e=>he e.symm)] at hb;exact h.tok b R e hb):A:=h
theorem eR (h:A:=by rw [h.fail] at he;simp_all):A:=h
theorem eS (h:A:=by obtain rfl:=Qe h;exact (frz_own (c:=(cI .i64)) (l:=([1,9]:List Int)) (fun _=>rfl) rfl trivial sd)):A:=h
theorem eT (h:A:=by
 have:i≠n:=fun e=>by subst e;rw [hH.fresh n (Lh _)] at h;simp_all
 exact dh):A:=h
theorem eU (h:A:=by obtain rfl:=Qe h;exact (frz_own (c:=(cI .i64)) (l:=([10]:List Int)) (fun _=>rfl) rfl trivial sd)):A:=h
theorem eV (h:A:=by apply Lw;intro x;rw [inv.hp x pre.length (Lh _) (fun i hi _=>hallI i hi),Qgt]):A:=h
theorem eW (h:A:=by exact ⟨_,rfl,by omega,by omega,fun h=>by omega⟩):A:=h
theorem eX (h:A:=by
 simp only []
 cases Q9 tm y<;>try rfl
 exact bY):A:=h
theorem eY (h:A:=by cases h with | rptr _ blk off val hS hc h1 hv=>exact .rptr _ blk off val hS hc h1 hv):A:=h
theorem eZ (h:A:=by grind [upθ]):A:=h
theorem fc (h:A:=by
 have:i≠n:=fun e=>by subst e;rw [hH.fresh n (Lh _)] at h;grind
 exact dh):A:=h
theorem fe (h:A:=by
 cases hg:Q47 R c with
 | none=>simp_all
 | some C=>
  have old:=h.get hg
  grind):A:=h
theorem ff (h:A:=by show Exists _;exact ⟨(n0,in24,(wrap .i64 (i25+1)),(l26 ++ [y28])),h,Lc _,(rho [0,4]),Z6⟩):A:=h
theorem fg (h:A:=by simp [Op.bytesLess] at h):A:=h
theorem fh (h:A:=by simp only [hb] at hs;cases hs):A:=h
theorem fi (h:A:=by simp_all [Q0b]):A:=h
theorem fj (h:A:=by exact Ap (θ:=cutθ θ n) (θ' := θ0) (fun _ _ e=>e) (fun c _ hf=>⟨hfree c hf,rfl⟩) h1):A:=h
theorem fk (h:A:=by simp [Array.getD,hlt] at h0;exact h0):A:=h
theorem fl (h:A:=by
 show cond (Q0 .lss (a.length:Int) ((Q7 (cI .i64) a).length:Int)) _ _=_
 simp_all [Q6,Qn]):A:=h
theorem fm (h:A:=by
 cases Q9 tm x<;>try rfl
 exact bY):A:=h
theorem fo (h:A:=by cases b<;>simp [Qlc] at h;simp_all):A:=h
theorem fq (h:A:=by first | exact .p _ | exact .tuple _ _ rfl (fun i v x h=>by simp at h)):A:=h
theorem fu (h:A:=by
 repeat' first
  | exact TotP.ret trivial
  | refine TotP.cond (fun _=>?_) (fun _=>?_)):A:=h
theorem fw (h:A:=by
 show cond (Q0 .lss (a.length:Int) ((Q7 Vc.cells a).length:Int)) _ _=_
 simp_all [Q6,Qn]):A:=h
theorem fx (h:A:=by
 show cond (Q0 .lss (a.length:Int) ((Q7 Yp.cells a).length:Int)) _ _=_
 simp_all [Q6,Qn]):A:=h
theorem fy (h:A:=by simp;omega):A:=h
theorem fA (h:A:=by refine Az (fun g2=>?_) (fun g2 => .ret (by grind));refine (Qns (Qe5 _)).eqv ?_<;>grind):A:=h
theorem fB (h:A:=by simp_all [Value.cells]):A:=h
theorem fC (h:A:=by
 have hlt:i<cs.length:=by grind
 exact ih i cs[i] x (La hlt) hx (hv i _ (La hlt))):A:=h
theorem fE (h:A:=by
 refine Ay hD ?_
 cases v with
 | false=>exact eP
 | true=>exact eP):A:=h
theorem fF (h:A:=by exact Az (fun g => .ret (by simp_all)) (fun g=>by rw [Ae (Ac g)];exact Qfg (Qi6 _))):A:=h
theorem fG (h:A:=by exact Az (fun g => .ret (by simp_all)) (fun g=>by rw [Ae (Ac g)];exact Qfg (Qn4 _))):A:=h
theorem fH (h:A:=by grind [List.getElem_of_mem]):A:=h
theorem fI (h:A:=by grind [Q88,fpN,Q1z,adK]):A:=h
theorem fJ (h:A:=by simp_all [execOp,resolve,invoke,builtin,Builtin.len_,run_underlying,goInt]):A:=h
theorem fL (h:A:=by
 cases Q9 tm x<;>try rfl
 rename_i v
 cases v<;>first | rfl | (cases neg<;>rfl)):A:=h
theorem fM (h:A:=by rw [Mm (by omega)];exact ⟨rfl,fun c hc=>(by cases hc),fun i x hx=>by simp_all⟩):A:=h
theorem fP (h:A:=by show Exists _;exact ⟨(0),h,(fun i=>i),Z6⟩):A:=h
theorem fQ (h:A:=by show Exists _;exact ⟨(n0,in24,(wrap .i64 (i25+1)),l26),h,Lc _,(fun i=>i),Z6⟩):A:=h
theorem fS (h:A:=by simp_all [COp.slots]):A:=h
theorem fT (h:A:=by
 rcases h with h | h
 ·exact Lu (hbnd c h) q4.size
 grind):A:=h
theorem fU (h:A:=by rw [Af (Aa g3)] at hacc;refine AH (chk (acc.length+1) (by omega)) ?_<;>simp_all):A:=h
theorem fV (h:A:=by grind [Qlc]):A:=h
theorem fW (h:A:=by obtain rfl:=Qe h;exact (.nil _)):A:=h
theorem fY (h:A:=by show Exists _;exact ⟨(n0,(pos16+(Qfz s_0 pos16).2)),h,Lc _,(fun i=>i),Z6⟩):A:=h
theorem fZ (h:A:=by simp_all [Qb2]):A:=h
theorem ga (h:A:=by repeat' first | exact rN | refine rA ?_ | refine rE rfl ?_):A:=h
theorem gc (h:A:=by simp_all [execOp,Instr.sliceAt,Instr.slice,Instr.sliceBounds,run_underlying]):A:=h
theorem ge (h:A:=by exact Gp (Q36 R g 0 h) ⟨fzT (.cons (.p _) (.cons (.p _) .nil)),rfl,rfl⟩):A:=h
theorem gf (h:A:=by exact ⟨fzT (.cons (.p _) (.cons (.p _) (.cons (.p _) .nil))),Gf [] rfl⟩):A:=h
theorem gg (h:A:=by grind [Nat.succ_mul,List.drop_drop,List.take_append_drop]):A:=h
theorem gi (h:A:=by grind [World.alloc_heap_new]):A:=h
theorem gj (h:A:=by cases b<;>simp_all):A:=h
theorem gk (h:A:=by cases dd<;>rcases kk with _ | _ | _ | kk<;>simp only [Q16,Mg] at f3<;>simp):A:=h
theorem gp (h:A:=by refine iL h fun h=>?_;exact aY):A:=h
theorem gq (h:A:=by rwa [show n+(i+1)=n+1+i by omega] at this):A:=h
theorem gt (h:A:=by first | (simp;done) | (simp [Q7];done) | (simp<;>omega)):A:=h
theorem gu (h:A:=by rw [IntKind.wrap_i64];omega):A:=h
theorem gv (h:A:=by rw [cX] at h;exact ar):A:=h
theorem gy (h:A:=by intro b hb;simp at hb;exact h.fresh b hb):A:=h
theorem gA (h:A:=by refine dF ?_;obtain rfl:=Qe h;show Exists _;exact ⟨(rho [0,1,4]),Z6⟩):A:=h
theorem gB (h:A:=by rw [Q87 (tm:=tm) (tm':=tm') (xs:=args) (fun t h=>ht t h)];exact h2 H2 hR):A:=h
theorem gC (h:A:=by rw [q4.old 0 hF0];exact m0):A:=h
theorem gD (h:A:=by show Exists _;exact ⟨(n0,(wrap .i64 (i10+1))),h,Lc _,(fun i=>i),Z6⟩):A:=h
theorem gE (h:A:=by show Exists _;exact ⟨(n0,(wrap .i64 (i14+1))),h,Lc _,(fun i=>i),Z6⟩):A:=h
theorem gF (h:A:=by show Exists _;exact ⟨(n0,(wrap .i64 (i18+1))),h,Lc _,(fun i=>i),Z6⟩):A:=h
theorem gG (h:A:=by show Exists _;exact ⟨(n0,(wrap .i64 (i22+1))),h,Lc _,(fun i=>i),Z6⟩):A:=h
theorem gH (h:A:=by show Exists _;exact ⟨(n0,(wrap .i64 (s22+1))),h,Lc _,(fun i=>i),Z6⟩):A:=h
theorem gI (h:A:=by simp_all [maxLen]):A:=h
theorem gJ (h:A:=by rcases ht with rfl | rfl<;>rfl):A:=h
theorem gK (h:A:=by rw [Q6,Qn,Ad (by omega),Z0 h,Z0 h'];rfl):A:=h
theorem gL (h:A:=by rw [show (0:Int)=((0:Nat):Int) from rfl,this];cases a;cases b;simp_all):A:=h
theorem gM (h:A:=by cases o<;>rfl):A:=h
theorem gN (h:A:=by intro h3;have:false=true:=g2.symm.trans h3;simp_all):A:=h
theorem gO (h:A:=by rw [← Cc];congr 1;omega):A:=h
theorem gP (h:A:=by simpa using h):A:=h
theorem gQ (h:A:=by
 cases Q0j (Q4k id.toNat 2) with
 | false=>exact eP
 | true=>exact eP):A:=h
theorem gR (h:A:=by exact h.call _ _ _ _ _ hk he):A:=h
theorem gS (h:A:=by exact h.elim):A:=h
theorem gT (h:A:=by grind [step,COp.slots,Q88,fpN,Q1z,adK]):A:=h
theorem gV (h:A:=by grind [step,Q88,fpN,Q1z,adK]):A:=h
theorem gW (h:A:=by have:=congrArg (fun l=>l[0]?) hdr;simpa using this):A:=h
theorem gY (h:A:=by rw [Q0y] at hv ⊢;exact Q5w h hd hk cs _ _ _ _ hv):A:=h
theorem gZ (h:A:=by
 cases o<;>simp only [Qa4] at hk<;>simp_all
 grind):A:=h
theorem hF (h:A:=by simp [Q0]):A:=h
theorem hI (h:A:=by
 have h:¬ s.length≤65535:=by grind
 exact .ret (by simp [Q8z,h])):A:=h
theorem hU (h:A:=by
 refine iR h fun h=>?_;apply iU h<;>intro h
 ·exact dN
 exact cy):A:=h
theorem hZ (h:A:=by exact ⟨h 0 _ rfl rfl,t⟩):A:=h
theorem ia (h:A:=by rw [← hbe];exact hf.1):A:=h
theorem ic (h:A:=by show Exists _;exact ⟨((Zb7 .neq p.Value [])),h,(fun i=>i),Z6⟩):A:=h
theorem ie (h:A:=by simp [Q29] at h):A:=h
theorem ig (h:A:=by simp only [mF];rw [Af (by omega)];exact p.first):A:=h
theorem ii (h:A:=by simp_all [refsLt,cutθ]):A:=h
theorem ij (h:A:=by exact iR h fun h=>iB h):A:=h
theorem ik (h:A:=by exact ⟨cv,w',θ',g1,g2,g3,hk2.trans g4,g5,fun h=>by cases h⟩):A:=h
theorem il (h:A:=by generalize a.eval x=ax at hrx;cases hrx with | p _ _ h=>exact dl):A:=h
theorem im (h:A:=by simp only [step] at hs ⊢;rw [Qcv ps _ (fun t h=>ht t h)];omega):A:=h
theorem io (h:A:=by subst h1;exact ⟨.exit _,tm',H',θ',rfl,h2,h3,h4,hE.trans h5⟩):A:=h
theorem ip (h:A:=by grind [Option.bind_eq_some_iff]):A:=h
theorem iq (h:A:=by grind [List.drop_drop,List.take_append_drop]):A:=h
theorem ir (h:A:=by simp [Q88,fpN]):A:=h
theorem iv (h:A:=by simp_all [Q0g]):A:=h
theorem iw (h:A:=by simp_all [Qlg]):A:=h
theorem ix (h:A:=by simpa using hn):A:=h
theorem iy (h:A:=by cases o<;>first | exact ⟨e,h⟩ | exact h):A:=h
theorem iz (h:A:=by
 refine Q8 Qpx ?_;apply iU h<;>intro h
 ·exact bH
 exact bH):A:=h
theorem iA (h:A:=by rw [Q0y] at hv ⊢;exact Q99 h hk cs _ _ hv):A:=h
theorem iC (h:A:=by rw [e];exact hr1.args):A:=h
theorem iD (h:A:=by simp [Qnc]):A:=h
theorem iE (h:A:=by simp [Qoe]):A:=h
theorem iF (h:A:=by simp_all [Builtin.copy_,run_underlying,sizeOf,typeInfo,goInt]):A:=h
theorem iG (h:A:=by simp_all [refsLt,rθ]):A:=h
theorem iH (h:A:=by exact ⟨fzT (.cons (.p _) (.cons (.p _) .nil)),Gf [] rfl⟩):A:=h
theorem iJ (h:A:=by obtain ⟨k,rfl⟩:∃ k,n=k+1:=⟨n - 1,by omega⟩<;>grind):A:=h
theorem iK (h:A:=by cases x;cases y;simp):A:=h
theorem iM (h:A:=by refine Az (fun _ => .ret ?_) (fun g=>by cases g);exact weak):A:=h
theorem iN (h:A:=by
 simp only [step] at hs ⊢;rw [o1 (fun t h=>h)]
 exact fI):A:=h
theorem iO (h:A:=by simp_all [Jd]):A:=h
theorem iP (h:A:=by simp_all [Q8l,meets]):A:=h
theorem iQ (h:A:=by unfold maxLen;decide):A:=h
theorem iT (h:A:=by cases b<;>simp [Qlc] at h;rw [Q9f a _ h]):A:=h
theorem iV (h:A:=by cases b<;>simp [Qpv] at h;rw [Qbv a _ h]):A:=h
theorem iX (h:A:=by rcases ht with rfl | rfl<;>simp [Q19,z]):A:=h
theorem iY (h:A:=by simp [execOp,ho,ham,hak,Result.andThen]):A:=h
theorem iZ (h:A:=by simp at h):A:=h
theorem i4 (h:A:=by cases a<;>simp_all):A:=h
theorem i5 (h:A:=by exact ⟨.ret,tm',H',θ',trivial,h2,h3,h4,hE.trans h5⟩):A:=h
theorem i6 (h:A:=by simp_all [AD]):A:=h
theorem i7 (h:A:=by simp_all [AV.cells?]):A:=h
theorem i8 (h:A:=by rw [inv.len];omega):A:=h
theorem i9 (h:A:=by simp at this;simp [at8,List.getD_eq_getElem?_getD,this]):A:=h
theorem ja (h:A:=by unfold Qai at h;rw [hu] at h;exact dl):A:=h
theorem jc (h:A:=by generalize hax:a.eval x=ax at hrx;cases hrx<;>simp_all):A:=h
theorem jd (h:A:=by have:=h (j+1) o' (by simp_all);grind):A:=h
theorem je (h:A:=by obtain ⟨f1,v,f2,f3⟩:=fin h2;exact ⟨f1,v,f2,f3⟩):A:=h
theorem jf (h:A:=by rw [Nk] at ha hb;exact p.dis a b c ha hb hne h1.1 h2.1):A:=h
theorem jg (h:A:=by simp_all [List.getElem?_eq_some_iff]):A:=h
theorem jh (h:A:=by rw [cX] at h;exact iB h):A:=h
theorem ji (h:A:=by rw [hrel'.1,hlen]):A:=h
theorem jk (h:A:=by simp_all [Qd4]):A:=h
end
end Go.Av
