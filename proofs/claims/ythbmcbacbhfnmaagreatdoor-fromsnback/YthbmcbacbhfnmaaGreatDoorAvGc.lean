/- Part of FromsnBack: the law returns true; no condition. -/
import Derived.Test.YthbmcbacbhfnmaaGreatDoorAvOwn
set_option linter.all false
namespace Go.Av
noncomputable section
set_option maxHeartbeats 4000000
section
variable {P:Program} {Gl:Nat->Option (List PV)}
def GC (P:Program) (Gl:Nat->Option (List PV)) (f:Nat) (args:List AV) (H0:List AObj) (r:AV) (H1:List AObj):Prop:=
 Qq P Gl f args H0 (fun v H'=>v=r∧H'=H1)
def Qou {f:Nat} {args:List AV} {H0:List AObj} {r:AV} {H1:List AObj} (hlen:H0.length≤H1.length)
  (hc:Qq P Gl f args H0 (fun v H'=>∃ ρ,Ren ρ H0.length [v] H' [r] H1)):GC P Gl f args H0 r H1:=by
 refine ⟨hc.1,fun θ w cargs ha hH hG=>(hc.2 θ w cargs ha hH hG).mono ?_⟩
 rintro e w' ⟨v,cr,H',θ',rfl,⟨ρ,hw⟩,q2,q3,q4⟩
 obtain ⟨s1,s2,s3⟩:=Qgq hw q3;exact ⟨r,cr,H1,_,rfl,⟨rfl,rfl⟩,s1 0 v r cr rfl rfl q2,s2,Qib hw q3 q4 hH hlen⟩
def Q0l {f:Nat} {cf:CFunc} (hk:Q5p P f cf=true) {args:List AV} {H0:List AObj} {r:AV} {H1:List AObj} (hlen:H0.length≤H1.length)
  (h:Q6s (EP P Gl) cf args H0 (fun v H'=>∃ ρ,Ren ρ H0.length [v] H' [r] H1)):GC P Gl f args H0 r H1:=Qou hlen (Q8 hk h)
def RenV.mono {ρ:Nat->Nat} {K K':Nat->Prop} {H:List AObj} (hk:∀ a,K a->K' a) {v u:AV} (h:RenV ρ K H v u):RenV ρ K' H v u:=by
 induction h with
 | same u=>exact .same u
 | any v=>exact .any v
 | nil e a off=>exact .nil e a off
 | nil0 e a off=>exact .nil0 e a off
 | frz v x h=>exact .frz v x (Qeh (fun a o h1 h2=>⟨hk a h1,h2⟩) h)
 | agg cs ds hn _ ih=>exact .agg cs ds hn ih
 | tuple cs ds hn _ ih=>exact .tuple cs ds hn ih
 | pagg ps ds hn _ ih=>exact .pagg ps ds hn ih
theorem Qlv {θ θ':Th} {σ:Nat->Nat} {S S':Nat->Prop} {w:World} (hθ:∀ a l,θ a=some l->θ' (σ a)=some l) (hS:∀ c,S c->S' c) {v:AV} {cv:Value} (h:RelV θ S w v cv):RelV θ' S' w (Q6m σ v) cv:=by
 induction h with
 | p x v hp=>rw [Q6m];exact .p x v (hp.mono (fun c _ h=>⟨hS c h,rfl⟩))
 | ptr a off l hl=>rw [Q6m];exact .ptr _ off l (hθ a l hl)
 | gptr g off=>rw [Q6m];exact .gptr g off
 | rptr cells blk off val h0 hc h1 hv=>rw [Q6m];exact .rptr cells blk off val (fun h=>hS _ (h0 h)) hc h1 (fun j x hj=>(hv j x hj).mono (fun c _ h=>⟨hS c h,rfl⟩))
 | slice esz a off len cap l addr hl he hle hs ha=>rw [Q6m];exact .slice esz _ off len cap l addr (hθ a l hl) he hle hs ha
 | sliceN esz a off o=>rw [Q6m];exact .sliceN esz _ off o
 | map r l hl=>rw [Q6m];exact .map _ l (hθ r l hl)
 | func fn a b A B ha hb hav hbv iha ihb=>
  rw [Q6m,Q0b,Q0b];refine .func fn _ _ A B (by simp_all) (by simp_all) (fun i x hx=>?_) (fun i x hx=>?_)
  ·grind
  grind
 | iface t x v hv ih=>rw [Q6m];exact .iface t _ v ih
 | agg cs C hn h1 hv ih=>
  rw [Q6m,Q0b];refine .agg _ C ix h1 (fun i x hx=>?_)<;>grind
 | tuple cs C hn hv ih=>
  rw [Q6m,Q0b];refine .tuple _ C ix (fun i x hx=>?_)<;>grind
 | any v=>rw [Q6m];exact .any v
def Qra {θ θ':Th} {σ:Nat->Nat} {S S':Nat->Prop} {w:World} (hθ:∀ a l,θ a=some l->θ' (σ a)=some l) (hS:∀ c,S c->S' c) {o:AObj} {l:Loc} (h:RelObj θ S w o l):RelObj θ' S' w (Qcd σ o) l:=by
 cases o with
 | cells cs=>
  obtain ⟨C,t,fz,h1,h2,h3,h4,h5⟩:=h;refine ⟨C,t,fz,h1,h2,h3,fi,fun j v hj=>?_⟩
  grind [Q0b,Qlv]
 | map es=>
  obtain ⟨E,c,h1,h2,h4,h3⟩:=h;refine ⟨E,c,h1,by simp_all,h4,fun i k v hi=>?_⟩;rw [Ll] at hi
  cases hq:es[i]? with
  | none=>simp_all
  | some y=>
   obtain ⟨k',v'⟩:=y;rw [hq] at hi;cases hi;exact ⟨(h3 i _ _ hq).1.mono (fun c _ h=>⟨hS c h,rfl⟩),Qlv hθ hS (h3 i _ _ hq).2⟩
 | strIter s pos=>exact h
 | dead=>trivial
 | ext R a=>
  obtain ⟨⟨la,h1,h2⟩,h3⟩:=h;exact ⟨⟨la,hθ a la h1,h2⟩,h3⟩
def Qq0 (ρ:Nat->Nat) (n m:Nat) (j:Nat):Nat:=if j<n then ρ j else m+(j - n)
def Z8l (ρ:Nat->Nat) (H H0 H1:List AObj) (i:Nat) (o:AObj):Prop:=
 (KD ρ H0 i∧H[i]? = some o)∨(∃ j o1,H1[j]? = some o1∧Qq0 ρ H0.length H.length j=i∧(j<H0.length->i<H.length)∧o=Qcd (Qq0 ρ H0.length H.length) o1)
def Qhb (ρ:Nat->Nat) (H H0 H1:List AObj):Nat->List AObj->Prop
 | _,[]=>True
 | i,.dead::r=>Qhb ρ H H0 H1 (i+1) r
 | i,o::r=>Z8l ρ H H0 H1 i o∧Qhb ρ H H0 H1 (i+1) r
section
variable {ρ:Nat->Nat} {H H0 H1:List AObj}
def fN {i:Nat}:Qhb ρ H H0 H1 i []:=trivial
def fD {i:Nat} {r:List AObj} (h:Qhb ρ H H0 H1 (i+1) r):Qhb ρ H H0 H1 i (.dead::r):=h
def fX {i:Nat} {o:AObj} {r:List AObj} (e:Z8l ρ H H0 H1 i o) (h:Qhb ρ H H0 H1 (i+1) r):Qhb ρ H H0 H1 i (o::r):=iy
def fK {i:Nat} {o:AObj} {r:List AObj} (k:KD ρ H0 i) (e:H[i]? = some o) (h:Qhb ρ H H0 H1 (i+1) r):Qhb ρ H H0 H1 i (o::r):=fX (.inl ⟨k,e⟩) h
def fR (j:Nat) {i:Nat} {o:AObj} {r:List AObj} {o1:AObj} (e:H1[j]? = some o1) (s:Qq0 ρ H0.length H.length j=i) (b:(Nat.ble H0.length j||Nat.ble (i+1) H.length)=true) (q:o=Qcd (Qq0 ρ H0.length H.length) o1) (h:Qhb ρ H H0 H1 (i+1) r):Qhb ρ H H0 H1 i (o::r):=
 fX (.inr ⟨j,o1,e,s,fun hj=> dH,q⟩) h
def fO (j:Nat) {T:Type} {c:T->List PV} {l:List T} {i:Nat} {r:List AObj} (e:H1[j]? = some (.cells (Xh c l))) (s:Qq0 ρ H0.length H.length j=i) (b:(Nat.ble H0.length j||Nat.ble (i+1) H.length)=true) (h:Qhb ρ H H0 H1 (i+1) r):Qhb ρ H H0 H1 i (.cells (Xh c l)::r):=
 fR j e s b (Qrk _ _ _).symm h
end
def Qli {ρ:Nat->Nat} {H H0 H1:List AObj}:∀ (H2:List AObj) (i:Nat),Qhb ρ H H0 H1 i H2->∀ (b:Nat) o,H2[b]? = some o->o.live=true->Z8l ρ H H0 H1 (i+b) o
 | [],_,_,b,o,hb,_=>by simp_all
 | o'::r,i,h,b,o,hb,hl=>by
  have key:Qhb ρ H H0 H1 (i+1) r∧(o'.live=true->Z8l ρ H H0 H1 i o'):=by
   cases o'<;>simp only [Qhb] at h<;>first | exact ⟨h,fun h=>by cases h⟩ | exact ⟨h.2,fun _=>h.1⟩
  cases b with
  | zero=>simp_all
  | succ b=>
   have:=Qli r (i+1) key.1 b o (by simp_all) hl
   grind
def Qq5 {f:Nat} {args:List AV} {H0:List AObj} {r:AV} {H1:List AObj} (hc:GC P Gl f args H0 r H1) (ρ:Nat->Nat) {vs:List AV} {H:List AObj}
  (hvs:RenL ρ (fun _=>False) H vs args) (hob:Qei ρ (fun _=>False) H 0 H0) (hin:Z2h ρ 0 H0=true) (hra:refsLt.refsLts H0.length args=true) (hro:(H0.all (Q1s H0.length))=true)
  (H2:List AObj) (hlen:(Nat.beq H2.length (H.length+(H1.length - H0.length)))=true) (hfin:Qhb ρ H H0 H1 0 H2)
  (r2:AV) (hr2:Q6m (Qq0 ρ H0.length H.length) r=r2) {Q:AV->List AObj->Prop} (hq:Q r2 H2):Qq P Gl f vs H Q:=by
 subst hr2;have hlen:=Bi hlen;refine ⟨hc.1,fun θ w cargs ha hH hG=>?_⟩;obtain ⟨_,i2⟩:=Qna hin;have hkf:∀ a,(fun _:Nat=>False) a->KD ρ H0 a:=fun a h=>h.elim
 let n:=H0.length
 let m:=H.length
 let blk:Nat->Prop:=fun c=>∃ j o l,H0[j]? = some o∧o.live=true ∧ θ (ρ j)=some l∧o.occ l c
 let bad0:Nat->Prop:=fun c=>c<w.heap.size∧¬ Qu θ H c∧¬ blk c
 let θ0:Th:=⟨fun j=>if j<n then θ (ρ j) else none,bad0⟩
 have get:∀ (b:Nat) o l,H0[b]? = some o->o.live=true->θ (ρ b)=some l->∃ o0,H[ρ b]? = some o0∧RenO ρ (fun _=>False) H o0 o∧o0.live=true:=by
  intro b o l hb hl hθ;have:=Qbk H0 0 hob b o hb hl;rw [Mi] at this
  exact dJ
 have t0:∀ j l,θ0 j=some l->j<n ∧ θ (ρ j)=some l:=fun j l h=>by
  grind
 have nl0:∀ c,NL θ H c->NL θ0 H0 c:=fun c h j o l ho hl hθ=>by
  obtain ⟨o0,g1,g2,g3⟩:=get j o l ho hl (t0 j l hθ).2;exact fun e=>h _ o0 l g1 g3 (t0 j l hθ).2 (g2.occ _ _ e)
 have hfree:∀ c,Qu θ H c->Qu θ0 H0 c:=fun c hf=>⟨fun hb=>hb.2.1 hf,nl0 c hf.2⟩;have back0:∀ {x:AV} {v:Value},RelV (rθ θ ρ n) (Qu θ0 H0) w x v->RelV θ0 (Qu θ0 H0) w x v:=fun h=>Ap (θ:=rθ θ ρ n) (θ' := θ0) (w':=w) (fun a l e=>e) (fun c _ h=>⟨h,rfl⟩) h
 have hH0:Hp θ0 H0 w:=by
  refine ⟨fun j o l ho hθ=>?_,fun a b oa ob la lb hoa hob' hla hlb hθa hθb hne=>?_,fun j hj=>?_,fun j o l ho hl hθ=>?_,fun c hc=>hc.1,fun j R e hj=>by
   have hlt:=(Ld.1 hj).1;have:=Qbk H0 0 hob j _ hj rfl;rw [Mi] at this
   rcases this with ⟨o0,g1,g2⟩ | ⟨g2,_⟩
   ·rcases g2 with rfl | ⟨_,_,_,rfl,g2,_⟩
    ·obtain ⟨l,hl⟩:=hH.tok _ _ _ g1<;>grind
    grind
   grind⟩
  ·cases hlv:o.live with
   | false=>exact d5
   | true=>
    obtain ⟨g0,g4⟩:=t0 j l hθ;obtain ⟨o0,g1,g2,_⟩:=get j o l ho hlv g4;have hr:=Ql9 (n:=n) (S:=Qu θ0 H0) hH hfree (fun a o l h=>h.elim) g2 (Ln.1 hro o (Mk ho)) (hH.obj _ _ l g1 g4);exact RelObj.mono (θ:=rθ θ ρ n) (θ' := θ0) (w':=w) (fun a l e=>e) (fun c _ h=>⟨h,rfl⟩) (fun _ _ _=>rfl) (Lh _) hr
  ·obtain ⟨_,g2⟩:=t0 a la hθa;obtain ⟨_,k2⟩:=t0 b lb hθb;obtain ⟨o1,g3,g4,g5⟩:=get a oa la hoa hla g2;obtain ⟨o2,k3,k4,k5⟩:=get b ob lb hob' hlb k2;exact fun c x1 x2=>hH.dist _ _ o1 o2 la lb g3 k3 g5 k5 g2 k2 (fun e=>hne (i2 a b oa ob hoa hob' hla hlb e)) c (g4.occ _ _ x1) (k4.occ _ _ x2)
  ·grind
  grind
 have hG0:GlobOK Gl θ0 H0 w:=aJ
 have lts:∀ (l:List AV),refsLt.refsLts n l=true->∀ (i:Nat) x,l[i]? = some x->refsLt n x=true:=bp
 have ha0:Q6h θ0 (Qu θ0 H0) w args cargs:=by
  refine ⟨by rw [ha.1,hvs.1],fun i u hu=>?_⟩
  have hlt:i<vs.length:=by rw [hvs.1];exact (Ld.1 hu).1
  exact back0 (Qgu hH hfree (fun a o l h=>h.elim) (hvs.2 i vs[i] u (La hlt) hu) _ (lts args hra i u hu) (ha.2 i _ (La hlt)))
 refine (hc.2 θ0 w cargs ha0 hH0 hG0).mono ?_
 rintro e w' ⟨r',cr,H1',θ1,rfl,⟨rfl,rfl⟩,q2,q3,q4⟩
 have hbe : θ1.bad=bad0:=q4.bad
 let σ:=Qq0 ρ n m
 let θ2:Th:=⟨fun a=>if a<m then θ a else if a - m<H1'.length - n then θ1 (n+(a - m)) else none,θ.bad⟩
 have old1:∀ j,j<n->θ1 j = θ (ρ j):=fun j hj=>by
  rw [q4.old j hj];grind
 have hn1:n≤H1'.length:=q4.len
 have fwd:∀ j l,θ1 j=some l->θ2 (σ j)=some l:=fun j l h=>by
  by_cases hj:j<n
  ·have h1:=old1 j hj;rw [h1] at h
   have : ρ j<m:=by
    by_cases hlt : ρ j<m
    ·omega
    rw [hH.fresh _ (by omega)] at h;grind
   grind [Qq0]
  have hj1:j<H1'.length:=by
   by_cases hlt:j<H1'.length
   ·omega
   rw [q3.fresh _ (by omega)] at h;grind
  grind [Qq0]
 have bwd:∀ j l,j<H1'.length->(j<n->σ j<m)->θ2 (σ j)=some l->θ1 j=some l:=fun j l hj1 hm h=>by
  by_cases hj:j<n
  ·grind [Qq0]
  simp only [θ2,σ,Qq0,Ae hj] at h
  grind
 have unt:∀ i o l,KD ρ H0 i->H[i]? = some o->o.live=true->θ i=some l->∀ c,o.occ l c->NL θ0 H0 c:=fun i o l hk ho hl hθ c hc j o' l' ho' hl' hθ' e=>by
  obtain ⟨_,g2⟩:=t0 j l' hθ';obtain ⟨o0,g3,g4,g5⟩:=get j o' l' ho' hl' g2;exact hH.dist (ρ j) i o0 o l' l g3 ho g5 hl g2 hθ (Qya hk j o' ho' hl') c (g4.occ _ _ e) hc
 have fin:∀ i o l,H2[i]? = some o->o.live=true->θ2 i=some l->(KD ρ H0 i∧H[i]? = some o ∧ θ i=some l)∨∃ j o1,H1'[j]? = some o1∧o1.live=true∧o=Qcd σ o1 ∧ σ j=i ∧ θ1 j=some l:=by
  intro i o l ho hl hθ;have:=Qli H2 0 hfin i o ho hl;rw [Mi] at this
  rcases this with ⟨g1,g2⟩ | ⟨j,o1,g1,g2,g3,g4⟩
  ·grind
  grind [Q53]
 have nobad:∀ c,¬ bad0 c->¬ θ.bad c:=fun c h hb=>h ⟨hH.badlt c hb,fun hf=>hf.1 hb,fun ⟨j,o,l,h1,h2,h3,h4⟩=>by
  obtain ⟨o0,g1,g2,g3⟩:=get j o l h1 h2 h3
  exact hH.good _ o0 l g1 g3 h3 c (g2.occ _ _ h4) hb⟩
 have nl2:∀ c,NL θ H c->NL θ1 H1' c->NL θ2 H2 c:=fun c h1 h2 i o l ho hl hθ e=>by
  rcases fin i o l ho hl hθ with ⟨_,g2,g3⟩ | ⟨j,o1,g1,g2,g4,_,g5⟩
  ·exact h1 i o l g2 hl g3 e
  subst g4;exact h2 j o1 l g1 g2 g5 ((Q1q _ _ _).1 e)
 have hS:∀ c,Qu θ1 H1' c->Qu θ2 H2 c:=fun c hf=>by
  have hnb:¬ bad0 c:=ia
  refine ⟨nobad c hnb,fun i o l ho hl hθ e=>?_⟩
  rcases fin i o l ho hl hθ with ⟨g1,g2,g3⟩ | ⟨j,o1,g1,g2,g4,_,g5⟩
  ·have hlt:=(hH.obj i o l g2 g3).lt hl c e;have hnf:¬ Qu θ H c:=fun hf=>hf.2 i o l g2 hl g3 e;refine hnb ⟨hlt,hnf,fun ⟨j,o',l',k1,k2,k3,k4⟩=>?_⟩;obtain ⟨o0,p1,p2,p3⟩:=get j o' l' k1 k2 k3;exact hH.dist (ρ j) i o0 o l' l p1 g2 p3 hl k3 g3 (Qya g1 j o' k1 k2) c (p2.occ _ _ k4) e
  subst g4;exact hf.2 j o1 l g1 g2 g5 ((Q1q _ _ _).1 e)
 have hnl:∀ c,c<w.heap.size->NL θ H c->NL θ2 H2 c∧w'.heap[c]? = w.heap[c]? := fun c hc h=>by
  obtain ⟨a1,a2⟩:=q4.nl c hc (nl0 c h)<;>simp_all
 have hext:∀ a l,θ a=some l->θ2 a=some l:=fun a l h=>by
  have:a<m:=by
   by_cases hlt:a<m
   ·omega
   rw [hH.fresh _ (by omega)] at h;grind
  grind
 have hHp:Hp θ2 H2 w':=by
  refine ⟨fun i o l ho hθ=>?_,fun a b oa ob la lb hoa hob' hla hlb hθa hθb hne=>?_,fun i hi=>?_,fun i o l ho hl hθ=>?_,fun c hc=>Lu (hH.badlt c hc) q4.size,fun i R e hi=>by
   have:=Qli H2 0 hfin i _ hi rfl;rw [Mi] at this
   rcases this with ⟨_,g2⟩ | ⟨j,o1,g1,g2,_,g4⟩
   ·exact (hH.tok i R e g2).imp fun _ h=>hext _ _ h
   cases o1 with
   | ext R1 e1=>
    obtain ⟨l,hl⟩:=q3.tok j R1 e1 g1<;>grind
   | _=>cases g4⟩
  ·cases hlv:o.live with
   | false=>exact d5
   | true=>
    rcases fin i o l ho hlv hθ with ⟨g1,g2,g3⟩ | ⟨j,o1,g1,g2,rfl,_,g5⟩
    ·have hr:=hH.obj i o l g2 g3;exact hr.mono hext (fun c hc hf=>⟨⟨hf.1,(hnl c hc hf.2).1⟩,(hnl c hc hf.2).2⟩) (fun hb c hc=>(q4.nl _ (hr.lt hb c hc) (unt i o l g1 g2 hlv g3 c hc)).2) q4.size
    exact Qra fwd hS (q3.obj j o1 l g1 g5)
  ·have mix:∀ (i:Nat) (o:AObj) (l:Loc) (j:Nat) (o1:AObj) (l':Loc),KD ρ H0 i->H[i]? = some o->o.live=true->θ i=some l->H1'[j]? = some o1->o1.live=true->θ1 j=some l'->∀ c,o.occ l c->o1.occ l' c->False:=
    fun i o l j o1 l' k1 k2 k3 k4 k5 k6 k7 c e1 e2=>(q4.nl _ ((hH.obj i o l k2 k4).lt k3 c e1) (unt i o l k1 k2 k3 k4 c e1)).1 j o1 l' k5 k6 k7 e2
   rcases fin a oa la hoa hla hθa with ⟨g1,g2,g3⟩ | ⟨j,o1,g1,g2,g6,g4,g5⟩<;>rcases fin b ob lb hob' hlb hθb with ⟨k1,k2,k3⟩ | ⟨j',o2,k1,k2,k6,k4,k5⟩
   ·exact hH.dist a b oa ob la lb g2 k2 hla hlb g3 k3 hne
   ·grind [Q1q]
   ·grind [Q1q]
   subst g6;subst k6;exact fun c x1 x2=>q3.dist j j' o1 o2 la lb g1 k1 g2 k2 g5 k5 (fun e=>hne (by grind)) c ((Q1q _ _ _).1 x1) ((Q1q _ _ _).1 x2)
  ·grind
  rcases fin i o l ho hl hθ with ⟨g1,g2,g3⟩ | ⟨j,o1,g1,g2,g4,_,g5⟩
  ·exact hH.good i o l g2 hl g3
  subst g4;exact fun c hc=>nobad _ (by rw [← hbe];exact q3.good j o1 l g1 g2 g5 c ((Q1q _ _ _).1 hc))
 refine ⟨_,cr,H2,θ2,rfl,hq,Qlv fwd hS q2,hHp,⟨⟨hext,rfl,hnl,q4.size,q4.os,q4.tape,q4.output⟩,by omega,fun b hb=>?_⟩⟩
 grind
def RenV.heap {ρ:Nat->Nat} {H:List AObj} (H2:List AObj) {v u:AV} (h:RenV ρ (fun _=>False) H v u):RenV ρ (fun _=>False) H2 v u:=by
 induction h with
 | same u=>exact .same u
 | any v=>exact .any v
 | nil e a off=>exact .nil e a off
 | nil0 e a off=>exact .nil0 e a off
 | frz v x h=>exact .frz v x (Qeh (fun a o h1 h2=>h1.elim) h)
 | agg cs ds hn _ ih=>exact .agg cs ds hn ih
 | tuple cs ds hn _ ih=>exact .tuple cs ds hn ih
 | pagg ps ds hn _ ih=>exact .pagg ps ds hn ih
def RenL.heap {ρ:Nat->Nat} {H:List AObj} {vs us:List AV} (h:RenL ρ (fun _=>False) H vs us) (H2:List AObj):RenL ρ (fun _=>False) H2 vs us:=
 ⟨h.1,fun i v u hv hu=>(h.2 i v u hv hu).heap H2⟩
def Z34 {f:Nat} {args:List AV} {r:AV} {obs:List AObj} (hc:GC P Gl f args [] r obs) {vs:List AV} {H:List AObj} {na:Nat} (hna:na+obs.length≤H.length∨na=H.length)
  (hvs:RenL (fun i=>i) (fun _=>False) H vs args) (hra:refsLt.refsLts 0 args=true) :
  Qs0 P Gl f vs H na obs.length (fun v H'=>v=Q6m (fun j=>na+j) r∧H'=Qh1 H na (obs.map (Qcd (fun j=>na+j)))):=by
 refine ⟨hc.1,fun θ w cargs hal ha hH hG=>?_⟩
 let bad0:Nat->Prop:=fun c=>c<w.heap.size∧¬ Qu θ H c
 let θ0:Th:=⟨fun j=>if j<0 then θ j else none,bad0⟩
 have hle:na≤H.length:=by omega
 have hdead:∀ i,i<obs.length->na+i<H.length:=fun i hi=>(Ld.1 (hal i hi).1).1;have hfree:∀ c,Qu θ H c->Qu θ0 [] c:=fun c hf=>⟨fun hb=>hb.2 hf,fun a o l h=>by simp_all⟩;have hH0:Hp θ0 [] w:=⟨fun a o l h=>by simp_all,fun a b oa ob la lb h=>by simp,fun _ _=>rfl,fun a o l h=>by simp_all,fun c h=>h.1,fun b R e h=>by simp_all⟩
 have hG0:GlobOK Gl θ0 [] w:=aJ
 have lts:∀ (l:List AV),refsLt.refsLts 0 l=true->∀ (i:Nat) x,l[i]? = some x->refsLt 0 x=true:=bp
 have ha0:Q6h θ0 (Qu θ0 []) w args cargs:=by
  refine ⟨by rw [ha.1,hvs.1],fun i u hu=>?_⟩
  have hlt:i<vs.length:=by rw [hvs.1];exact (Ld.1 hu).1
  have h1:=Qgu (n:=0) hH hfree (fun a o l h=>h.elim) (hvs.2 i vs[i] u (La hlt) hu) _ (lts args hra i u hu) (ha.2 i _ (La hlt));exact Ap (θ:=rθ θ (fun i=>i) 0) (θ' := θ0) (w':=w) (fun a l e=>e) (fun c _ h=>⟨h,rfl⟩) h1
 refine (hc.2 θ0 w cargs ha0 hH0 hG0).mono ?_
 rintro e w' ⟨r',cr,H1',θ1,rfl,⟨rfl,rfl⟩,q2,q3,q4⟩
 have hbe : θ1.bad=bad0:=q4.bad
 let m:=H1'.length
 let σ:Nat->Nat:=fun j=>na+j
 let θ2:Th:=⟨fun a=>if na≤a∧a<na+m then θ1 (a - na) else θ a,θ.bad⟩
 have all:∀ c,c<w.heap.size->NL θ1 H1' c∧w'.heap[c]? = w.heap[c]? := fun c hc=>q4.nl c hc (fun a o l h=>by simp_all)
 have fwd:∀ j l,θ1 j=some l->θ2 (σ j)=some l:=fun j l h=>by
  by_cases hj:j<m
  ·grind
  rw [q3.fresh j (by omega)] at h;simp_all
 have get:∀ (i:Nat) (o:AObj) (l:Loc),(Qh1 H na (H1'.map (Qcd σ)))[i]? = some o->θ2 i=some l->(∃ j ob,i=na+j∧j<m∧H1'[j]? = some ob∧o=Qcd σ ob ∧ θ1 j=some l)∨(¬ (na≤i∧i<na+m)∧H[i]? = some o ∧ θ i=some l):=by grind [Q9u]
 have hext:∀ a l,θ a=some l->θ2 a=some l:=fun a l h=>by
  grind
 have hnl:∀ c,c<w.heap.size->NL θ H c->NL θ2 (Qh1 H na (H1'.map (Qcd σ))) c∧w'.heap[c]? = w.heap[c]? := fun c hc h=>by
  refine ⟨fun i o l ho hl hθ=>?_,(all c hc).2⟩
  rcases get i o l ho hθ with ⟨j,ob,_,_,g1,rfl,g3⟩ | ⟨_,g2,g3⟩
  ·exact fun e=>(all c hc).1 j ob l g1 eu g3 ((Q1q _ _ _).1 e)
  exact h i o l g2 hl g3
 have hS:∀ c,Qu θ1 H1' c->Qu θ2 (Qh1 H na (H1'.map (Qcd σ))) c:=fun c hf=>by
  have hnb:¬ bad0 c:=ia
  refine ⟨fun hb=>hnb ⟨hH.badlt c hb,fun h=>h.1 hb⟩,fun i o l ho hl hθ e=>?_⟩
  rcases get i o l ho hθ with ⟨j,ob,_,_,g1,rfl,g3⟩ | ⟨_,g2,g3⟩
  ·exact hf.2 j ob l g1 eu g3 ((Q1q _ _ _).1 e)
  exact hnb ⟨(hH.obj i o l g2 g3).lt hl c e,fun h=>h.2 i o l g2 hl g3 e⟩
 have hnew:∀ (j:Nat) (ob:AObj) (l:Loc),H1'[j]? = some ob->ob.live=true->θ1 j=some l->∀ c,ob.occ l c->w.heap.size≤c:=fun j ob l hj hl hθ c hc=>by
  by_cases hlt:c<w.heap.size
  ·exact absurd hc ((all _ hlt).1 j ob l hj hl hθ)
  omega
 have hHp:Hp θ2 (Qh1 H na (H1'.map (Qcd σ))) w':=by
  refine ⟨fun i o l ho hθ=>?_,fun a b oa ob' la lb hoa hob' hla hlb hθa hθb hne=>?_,fun i hi=>?_,fun i o l ho hl hθ=>?_,fun c hc=>Lu (hH.badlt c hc) q4.size,fun i R e hi=>by
   rw [Q9u _ _ _ hle,Mf] at hi
   by_cases he:na≤i∧i<na+H1'.length
   ·rw [Af he,Ll] at hi
    cases hq:H1'[i - na]? with
    | none=>simp_all
    | some ob=>
     rw [hq] at hi
     cases ob with
     | ext R1 e1=>
      obtain ⟨l,hl⟩:=q3.tok _ R1 e1 hq<;>grind
     | _=>cases hi
   rw [Ae he] at hi
   exact (hH.tok i R e hi).imp fun _ h=>hext _ _ h⟩
  ·rcases get i o l ho hθ with ⟨j,ob,_,_,g1,rfl,g3⟩ | ⟨_,g2,g3⟩
   ·exact Qra fwd hS (q3.obj j ob l g1 g3)
   have hr:=hH.obj i o l g2 g3;exact hr.mono hext (fun c hc hf=>⟨⟨hf.1,(hnl c hc hf.2).1⟩,(hnl c hc hf.2).2⟩) (fun hb c hc=>(all _ (hr.lt hb c hc)).2) q4.size
  ·rcases get a oa la hoa hθa with ⟨j,ob,ea,_,g1,rfl,g3⟩ | ⟨ea,g2,g3⟩<;>rcases get b ob' lb hob' hθb with ⟨j',ob2,eb,_,k1,rfl,k3⟩ | ⟨eb,k2,k3⟩
   ·exact fun c x1 x2=>q3.dist j j' ob ob2 la lb g1 k1 eu eu g3 k3 (fun e=>hne (by omega)) c ((Q1q _ _ _).1 x1) ((Q1q _ _ _).1 x2)
   ·intro c x1 x2;have h1:=hnew j ob la g1 eu g3 c ((Q1q _ _ _).1 x1);have h2:=(hH.obj b ob' lb k2 k3).lt hlb c x2;omega
   ·intro c x1 x2;have h1:=hnew j' ob2 lb k1 eu k3 c ((Q1q _ _ _).1 x2);have h2:=(hH.obj a oa la g2 g3).lt hla c x1;omega
   exact hH.dist a b oa ob' la lb g2 k2 hla hlb g3 k3 hne
  ·have h1:=(Qbq (H1'.map (Qcd σ)) H na).1;have h2:=(Qbq (H1'.map (Qcd σ)) H na).2 hle;rw [Mf] at h2;simp only [θ2];rw [Ae (by omega)];exact hH.fresh i (by omega)
  rcases get i o l ho hθ with ⟨j,ob,_,_,g1,rfl,g3⟩ | ⟨_,g2,g3⟩
  ·intro c hc hb;have h1:=hnew j ob l g1 eu g3 c ((Q1q _ _ _).1 hc);have h2:=hH.badlt _ hb;omega
  exact hH.good i o l g2 hl g3
 exact ⟨_,cr,_,θ2,rfl,⟨rfl,rfl⟩,Qlv fwd hS q2,hHp,⟨hext,rfl,hnl,q4.size,q4.os,q4.tape,q4.output⟩,fun b hb=>by grind⟩
def Qom {f:Nat} {args:List AV} {r:AV} {obs:List AObj} (hc:GC P Gl f args [] r obs) {vs:List AV} {H:List AObj} {k:AV->List AObj->List Nat->List Nat->Prop}
  (h0:Nat.ble 1 obs.length=true) (hvs:RenL (fun i=>i) (fun _=>False) H vs args) (hra:refsLt.refsLts 0 args=true) (A:List Nat) (hA:(List.range' H.length obs.length)=A) {r2:AV} {H2:List AObj} (hr:Q6m (fun j=>H.length+j) r=r2)
  (hH:H++obs.map (Qcd (fun j=>H.length+j))=H2) (hk:k r2 H2 [] A):Wz P Gl f vs H k:=by
 subst hA hr hH;refine .inr ⟨[],obs.map (Qcd (fun j=>H.length+j)),Q6m (fun j=>H.length+j) r,List.range' H.length obs.length,fun x h1 h2=>by simp_all,fun H2 _=>?_,?_⟩
 ·rw [Mf];refine ⟨hc.1,fun θ w cargs h1 h2 h3 h4=>?_⟩;have h0:=Lj h0;have:=(Ld.1 (h1 (obs.length - 1) (by omega)).1).1;exact (Z34 (na:=H.length) hc (vs:=vs) (H:=H2) (.inl (by omega)) (hvs.heap H2) hra).2 θ w cargs h1 h2 h3 h4
 simp_all [Qm1]
def oN {f:AObj->AObj}:([]:List AObj).map f = []:=rfl
def oW {T:Type} {c:T->List PV} {l:List T} {σ:Nat->Nat} {r r':List AObj} (h:r.map (Qcd σ)=r'):(AObj.cells (Xh c l)::r).map (Qcd σ)=AObj.cells (Xh c l)::r':=by
 rw [Mv,Qrk,h]
def dO {f:AObj->AObj} {H obs obs' H2:List AObj} (h:obs.map f=obs') (e:H++obs'=H2):H++obs.map f=H2:=by simp_all
structure GcP (ρ:Nat->Nat) (vs:List AV) (H:List AObj) (args:List AV) (H0 H1:List AObj) (r:AV) (H2:List AObj) (r2:AV):Prop where
 vs:RenL ρ (fun _=>False) H vs args
 ob:Qei ρ (fun _=>False) H 0 H0
 inj:Z2h ρ 0 H0=true
 refs:refsLt.refsLts H0.length args=true
 robj:(H0.all (Q1s H0.length))=true
 len:(Nat.beq H2.length (H.length+(H1.length - H0.length)))=true
 fin:Qhb ρ H H0 H1 0 H2
 res:Q6m (Qq0 ρ H0.length H.length) r=r2
theorem Z07 {f:Nat} {args:List AV} {H0:List AObj} {r:AV} {H1:List AObj} (hc:GC P Gl f args H0 r H1) {vs:List AV} {H:List AObj}
  {Q:AV->List AObj->Prop} (h:∃ ρ H2 r2,GcP ρ vs H args H0 H1 r H2 r2∧Q r2 H2):Qq P Gl f vs H Q:=by
 obtain ⟨ρ,H2,r2,h,hq⟩:=h;exact Qq5 hc ρ h.vs h.ob h.inj h.refs h.robj H2 h.len h.fin r2 h.res hq
end
end
end Go.Av
