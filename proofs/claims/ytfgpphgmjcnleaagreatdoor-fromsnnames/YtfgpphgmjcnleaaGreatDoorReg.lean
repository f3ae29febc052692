/- Part of FromsnNames: the law returns true; no condition. -/
import Derived.Test.YtfgpphgmjcnleaaGreatDoorAvAbb
set_option linter.all false
namespace Go.Av
noncomputable section
theorem Qcv (p:Nat->Prop):∀ n:Nat,∃ N:Nat,∀ c,N.testBit c=true↔c<n∧p c
 | 0=>⟨0,fun c=>by simp⟩
 | n+1=>by
  obtain ⟨N,hN⟩:=Qcv p n
  by_cases h:p n
  ·refine ⟨N ||| 2 ^ n,fun c=>?_⟩;rw [Cu,Np,hN,Cd];constructor
   ·rintro (h1 | h1)
    ·exact ⟨by omega,h1.2⟩
    have:n=c:=Aa h1;subst this;exact ⟨by omega,h⟩
   rintro ⟨h1,h2⟩
   by_cases e:n=c
   ·exact .inr (Ad e)
   exact .inl ⟨by omega,h2⟩
  refine ⟨N,fun c=>?_⟩;rw [hN];constructor
  ·rintro ⟨h1,h2⟩;exact ⟨by omega,h2⟩
  rintro ⟨h1,h2⟩
  refine ⟨?_,h2⟩
  by_cases e:c=n
  ·subst e;exact absurd h2 h
  omega
theorem G9 {θ:Th} {S:Nat->Prop} {w:World} {o:AObj} {l:Loc} (h:RelB θ S w o l) (c:Nat):o.occ l c↔l.blk=c:=by
 cases o with
 | ext R a=>exact h.elim
 | _=>exact Iff.rfl
theorem Qdr {θ:Th} {S:Nat->Prop} {w:World} {o:AObj} {l:Loc} (h:RelB θ S w o l):RelObj θ S w o l:=by
 cases o with
 | ext R a=>exact h.elim
 | _=>exact h
section
variable {P:Program} {Gl:Nat->Option (List PV)}
def Ug (P:Program) (Gl:Nat->Option (List PV)) (f:Nat) (R:Reg) (args:List PV) (r:PV) (R':Reg):Prop:=
 ∀ (H:List AObj) (b a:Nat),H[b]? = some (.ext R a)->∀ vs,FrzL (fun _=>False) H vs args ->
  Q8 P Gl f (.ptr a 0::vs) H (fun v H'=>v = .p r∧H'=H.set b .dead ++ [.ext R' a])
def Qoc (w:World) (la:Loc) (fp used:Nat->Prop) (R':Reg) (H':List AObj):Prop:=
 ∀ (w':World) (θ':Th),Hp θ' H' w'->θ' 0=some la->w.heap.size≤w'.heap.size->(∀ c,fp c->¬ used c->w'.heap[c]? = w.heap[c]? ∧ NL θ' H' c)->RegRep w' R' la (fun c=>fp c∨¬ NL θ' H' c)
theorem Qdn {f:Nat} {args:List PV} {r:PV} {R R':Reg} (hok:Qd0 P f=true) (hr:Wf r=true)
  (hc:∀ (w:World) (la:Loc) (fp:Nat->Prop),RegRep w R la fp->∃ (F:List AObj) (m:Nat->Option Loc),m 0=some la∧0<F.length∧Lies w F m fp∧(∀ (i:Nat) Q e,F[i]? ≠ some (AObj.ext Q e)) ∧
   Q8 P Gl f (.ptr 0 0::args.map .p) F (fun v H'=>v = .p r∧Qoc w la fp (fun c=>∃ i l,m i=some l∧l.blk=c) R' H')):Ug P Gl f R args r R':=by
 intro H b a hb vs hvs;refine ⟨hok,fun θ w cargs hargs hH hG=>?_⟩;have hp0:=hargs.2 0 (.ptr a 0) rfl
 obtain ⟨la,hla,hcv⟩:∃ l,θ a=some l∧cargs.getD 0 Qc = .pointer (some ⟨l.blk,l.off+0,none⟩):=by
  generalize cargs.getD 0 Qc=cv at hp0
  cases hp0 with
  | ptr _ _ l hl=>exact ⟨l,hl,rfl⟩
 obtain ⟨lt,hlt⟩:=hH.tok b R a hb;obtain ⟨⟨la',hla',hrep⟩,hbnd⟩:=hH.obj b _ lt hb hlt;rw [hla] at hla';cases hla';have hocc:∀ c,lt.size.testBit c=true->¬ Qe θ H c:=fun c hc hf=>hf.2 b _ lt hb rfl hlt hc;obtain ⟨F,m,m0,hF0,hL,hnx,hcall⟩:=hc w la _ hrep
 let used:Nat->Prop:=fun c=>∃ i l,m i=some l∧l.blk=c
 have hused:∀ c,used c->lt.size.testBit c=true:=fun c ⟨i,l,h1,h2⟩=>h2▸hL.occ i l h1
 let bad0:Nat->Prop:=fun c=>c<w.heap.size∧¬ Qe θ H c∧¬ used c
 let θ0:Th:=⟨m,bad0⟩
 have hnlF:∀ c,¬ used c->NL θ0 F c:=fun c hc i o l hi hol hθ e=>hc ⟨i,l,hθ,(G9 (hL.obj i o l hi hθ) c).1 e⟩;have hfree:∀ c,Qe θ H c->Qe θ0 F c:=fun c hf=>⟨fun hb=>hb.2.1 hf,hnlF c fun hu=>hocc c (hused c hu) hf⟩;have hmp:∀ x v,RelP (Qe θ H) w x v->RelP (Qe θ0 F) w x v:=fun x v h=>h.mono (fun c _ hf=>⟨hfree c hf,rfl⟩)
 have hH0:Hp θ0 F w:=by
  refine ⟨fun i o l hi hθ=>?_,fun i j oi oj li lj hi hj _ _ h1 h2 hne c c1 c2=>?_,fun i hi=>hL.fresh i hi,fun i o l hi _ hθ c hc hb=>?_,fun c hc=>hc.1,fun i Q e hi=>absurd hi (hnx i Q e)⟩
  ·exact Qdr (Aq (θ:=Q4u m) (θ' := θ0) (S:=fun _=>False) (S':=Qe θ0 F) (w:=w) (w':=w) (fun _ _ e=>e) (fun _ _ e=>e.elim) (fun _=>rfl) (hL.obj i o l hi hθ))
  ·exact hL.dist i j li lj h1 h2 hne (((G9 (hL.obj i oi li hi h1) c).1 c1).trans ((G9 (hL.obj j oj lj hj h2) c).1 c2).symm)
  exact hb.2.2 ⟨i,l,hθ,(G9 (hL.obj i o l hi hθ) c).1 hc⟩
 have hG0:GlobOK Gl θ0 F w:=by
  intro g cs hg;obtain ⟨g1,g2,vs',g3,g4,g5⟩:=hG g cs hg;exact ⟨g1,hfree g g2,vs',g3,g4,fun j x hx=>⟨(g5 j x hx).1,hmp _ _ (g5 j x hx).2⟩⟩
 have hargs0:Q01 θ0 (Qe θ0 F) w (.ptr 0 0::args.map .p) cargs:=by
  refine ⟨by rw [hargs.1];simp [hvs.1],fun i v hv=>?_⟩
  cases i with
  | zero=>
   simp at hv;subst hv;rw [hcv];exact .ptr 0 0 la m0
  | succ i=>
   simp only [Ba,Lk] at hv
   cases hx:args[i]? with
   | none=>rw [hx] at hv;cases hv
   | some x=>
    rw [hx] at hv;cases hv
    have hlt:i<vs.length:=by rw [hvs.1];exact (La.1 hx).1
    have h1:=hargs.2 (i+1) vs[i] (by simp [hlt]);have h2:=Q1i (S:=Qe θ H) hH (fun c h=>h) (fun a o l h=>h.elim) (hvs.2 i vs[i] x (Lc hlt) hx) h1;exact .p _ _ (hmp _ _ h2)
 refine (hcall.2 θ0 w cargs hargs0 hH0 hG0).mono ?_
 rintro e w' ⟨v,cr,H',θ',rfl,⟨rfl,hcl⟩,q2,q3,q4⟩
 have hl' : θ' 0=some la:=by rw [q4.old 0 hF0];exact m0
 have hnl:∀ c,c<w.heap.size->¬ used c->NL θ' H' c∧w'.heap[c]? = w.heap[c]? := fun c hc hu=>q4.nl c hc (hnlF c hu);have hrep':=hcl w' θ' q3 hl' q4.size (fun c h1 h2=>⟨(hnl c (hbnd c h1) h2).2,(hnl c (hbnd c h1) h2).1⟩);obtain ⟨N,hN⟩:=Qcv (fun c=>lt.size.testBit c=true∨¬ NL θ' H' c) w'.heap.size
 have hold:∀ c,N.testBit c=true->lt.size.testBit c=true∨w.heap.size≤c:=fun c h=>by
  rcases ((hN c).1 h).2 with h1 | h1
  ·exact .inl h1
  by_cases hcs:c<w.heap.size
  ·by_cases hu:used c
   ·exact .inl (hused c hu)
   exact absurd (hnl c hcs hu).1 h1
  exact .inr (by omega)
 have hlim:∀ c,¬ NL θ' H' c->c<w'.heap.size:=fun c h=>Ln fun hn=>h fun i o l hi hol hθ e=>hn ((q3.obj i o l hi hθ).lt hol c e)
 have hrepN:RegRep w' R' la (fun c=>N.testBit c=true):=hrep'.mono fun c h=>⟨(hN c).2 ⟨by
  rcases h with h | h
  ·exact Me (hbnd c h) q4.size
  exact hlim c h,h⟩,rfl⟩
 let n:=H.length
 let ln:Loc:=⟨0,0,N⟩
 have hbl:b<n:=(La.1 hb).1
 have hal:a<n:=by
  by_cases h:a<n
  ·exact h
  rw [hH.fresh a (by omega)] at hla;cases hla
 have hl1:(H.set b .dead).length=n:=by simp [n]
 have get:∀ (i:Nat) o,(H.set b .dead ++ [.ext R' a])[i]? = some o->(i=n∧o = .ext R' a)∨(i<n∧i=b∧o = .dead)∨(i<n∧i≠b∧H[i]? = some o):=by
  intro i o hi
  by_cases hin:i<n
  ·rw [Lh (by omega)] at hi
   by_cases hib:i=b
   ·subst hib;rw [Li hbl] at hi;cases hi;exact .inr (.inl ⟨hin,rfl,rfl⟩)
   rw [Lg (fun e=>hib e.symm)] at hi;exact .inr (.inr ⟨hin,hib,hi⟩)
  rw [Lm (by omega),hl1] at hi
  have:i - n=0:=by
   by_cases h0:i - n=0
   ·exact h0
   rw [Md (by simp;omega)] at hi;cases hi
  rw [this] at hi;simp at hi;exact .inl ⟨by omega,hi.symm⟩
 have hext:∀ i l,θ i=some l->upθ θ n ln i=some l:=fun i l h=>by
  have:i≠n:=fun e=>by subst e;rw [hH.fresh n (Lj _)] at h;cases h
  simp [upθ,this,h]
 have tt:∀ i l,i<n->upθ θ n ln i=some l->θ i=some l:=fun i l hi h=>by
  have:i≠n:=by omega
  simpa [upθ,this] using h
 have nl2:∀ c,c<w.heap.size->NL θ H c->NL (upθ θ n ln) (H.set b .dead ++ [.ext R' a]) c∧w'.heap[c]? = w.heap[c]? := fun c hc hf=>by
  have hnfp:¬ lt.size.testBit c=true:=fun h=>hf b _ lt hb rfl hlt h;refine ⟨fun i o l hi hol hθ=>?_,(hnl c hc fun hu=>hnfp (hused c hu)).2⟩
  rcases get i o hi with ⟨rfl,rfl⟩ | ⟨_,_,rfl⟩ | ⟨h1,h2,h3⟩
  ·have:l=ln:=by simpa [upθ] using hθ.symm
   subst this;intro e
   rcases hold c e with h | h
   ·exact hnfp h
   omega
  ·cases hol
  exact hf i o l h3 hol (tt i l h1 hθ)
 have free2:∀ c,c<w.heap.size->Qe θ H c->Qe (upθ θ n ln) (H.set b .dead ++ [.ext R' a]) c∧w'.heap[c]? = w.heap[c]? := fun c hc hf=>⟨⟨hf.1,(nl2 c hc hf.2).1⟩,(nl2 c hc hf.2).2⟩
 have apart:∀ i o l,i≠b->H[i]? = some o->o.live=true->θ i=some l->∀ c,o.occ l c->c<w.heap.size∧¬ lt.size.testBit c=true:=fun i o l hib hi hol hθ c hc=>
  ⟨(hH.obj i o l hi hθ).lt hol c hc,fun h=>hH.dist i b o _ l lt hi hb hol rfl hθ hlt hib c hc h⟩
 refine ⟨.p r,cr,_,upθ θ n ln,rfl,⟨rfl,rfl⟩,.p _ _ ?_,⟨?_,?_,?_,?_,?_,?_⟩,⟨⟨hext,rfl,nl2,q4.size,q4.os,q4.tape,q4.output⟩,by simp,fun i hi=>?_⟩⟩
 ·cases q2 with | p _ _ q2=>exact J5 r cr hr q2
 ·intro i o l hi hθ
  rcases get i o hi with ⟨rfl,rfl⟩ | ⟨_,_,rfl⟩ | ⟨h1,h2,h3⟩
  ·have:l=ln:=by simpa [upθ] using hθ.symm
   subst this;exact ⟨⟨la,hext _ _ hla,hrepN⟩,fun c hc=>((hN c).1 hc).1⟩
  ·trivial
  have hr0:=hH.obj i o l h3 (tt i l h1 hθ)
  exact hr0.mono hext free2 (fun hol c hc=>by
   obtain ⟨g1,g2⟩:=apart i o l h2 h3 hol (tt i l h1 hθ) c hc
   exact (hnl c g1 fun hu=>g2 (hused c hu)).2) q4.size
 ·intro i j oi oj li lj hi hj hil hjl hti htj hne c c1 c2
  rcases get i oi hi with ⟨rfl,rfl⟩ | ⟨_,_,rfl⟩ | ⟨h1,h2,h3⟩<;>rcases get j oj hj with ⟨rfl,rfl⟩ | ⟨_,_,rfl⟩ | ⟨k1,k2,k3⟩
  ·exact hne rfl
  ·cases hjl
  ·have:li=ln:=by simpa [upθ] using hti.symm
   subst this;obtain ⟨g1,g2⟩:=apart j oj lj k2 k3 hjl (tt j lj k1 htj) c c2
   rcases hold c c1 with h | h
   ·exact g2 h
   omega
  ·cases hil
  ·cases hil
  ·cases hil
  ·have:lj=ln:=by simpa [upθ] using htj.symm
   subst this;obtain ⟨g1,g2⟩:=apart i oi li h2 h3 hil (tt i li h1 hti) c c1
   rcases hold c c2 with h | h
   ·exact g2 h
   omega
  ·cases hjl
  exact hH.dist i j oi oj li lj h3 k3 hil hjl (tt i li h1 hti) (tt j lj k1 htj) hne c c1 c2
 ·intro i hi;simp at hi
  have:i≠n:=by show i≠H.length;omega
  simp only [upθ,Ae this];exact hH.fresh i (by omega)
 ·intro i o l hi hol hθ c hc
  rcases get i o hi with ⟨rfl,rfl⟩ | ⟨_,_,rfl⟩ | ⟨h1,h2,h3⟩
  ·have:l=ln:=by simpa [upθ] using hθ.symm
   subst this;intro hbad
   rcases hold c hc with h | h
   ·exact hH.good b _ lt hb rfl hlt c h hbad
   have:=hH.badlt c hbad;omega
  ·cases hol
  exact hH.good i o l h3 hol (tt i l h1 hθ) c hc
 ·intro c hc;exact Me (hH.badlt c hc) q4.size
 ·intro i Q e hi
  rcases get i _ hi with ⟨rfl,_⟩ | ⟨_,_,h⟩ | ⟨h1,h2,h3⟩
  ·exact ⟨ln,by simp [upθ]⟩
  ·cases h
  exact (hH.tok i Q e h3).imp fun _ h=>hext _ _ h
 have:i≠n:=by show i≠H.length;omega
 simp [upθ,this]
end
end
end Go.Av
