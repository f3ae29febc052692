/- Part of FromsnBack: the law returns true; no condition. -/
import Derived.Test.YthbmcbacbhfnmaaGreatDoorAvMeth
import Derived.Test.YthbmcbacbhfnmaaGreatDoorAvDraws
import Derived.Test.YthbmcbacbhfnmaaGreatDoorAvBase
set_option linter.all false
namespace Go.Av
noncomputable section
set_option maxHeartbeats 4000000
mutual
def Q29:PV->Bool
 | .bool _=>true
 | .int _ _=>true
 | .str _=>true
 | .nilPtr=>true
 | .nilSlice=>true
 | .nilMap=>true
 | .nilFunc=>true
 | .nilIface=>true
 | .slice _ []=>true
 | .agg cs=>Qj7 cs
 | .tuple cs=>Qj7 cs
 | _=>false
def Qj7:List PV->Bool
 | []=>true
 | x::xs=>Q29 x&&Qj7 xs
end
mutual
theorem Q5c {S S':Nat->Prop} {w w':World}:∀ (x:PV) (v:Value),Q29 x=true->RelP S w x v->RelP S' w' x v
 | .bool _,_,_,h=>by cases h;exact .bool _
 | .int _ _,_,_,h=>by cases h;exact .int _ _
 | .str _,_,_,h=>by cases h;exact .str _
 | .nilPtr,_,_,h=>by cases h;exact .nilPtr
 | .nilSlice,_,_,h=>by cases h;exact .nilSlice
 | .nilMap,_,_,h=>by cases h;exact .nilMap
 | .nilFunc,_,_,h=>by cases h;exact .nilFunc
 | .nilIface,_,_,h=>by cases h;exact .nilIface
 | .slice e [],_,_,h=>by
  cases h with
  | sliceE _ a c hn=>exact .sliceE e a c hn
  | slice _ _ blk off cap val he hr hcap hS hc h1 hv=>exact .sliceE e _ cap (fun h=>by cases h)
 | .slice _ (_::_),_,h,_=> ie
 | .pmap _,_,h,_=> ie
 | .func _ _ _,_,h,_=> ie
 | .iface _ _,_,h,_=> ie
 | .agg cs,_,hf,h=>by
  simp only [Q29] at hf
  cases h with
  | agg _ C hn h1 hv=>exact .agg cs C hn h1 (Qi5 cs hf (fun i=>C.getD i Qr) hv)
 | .tuple cs,_,hf,h=>by
  simp only [Q29] at hf
  cases h with
  | tuple _ C hn hv=>exact .tuple cs C hn (Qi5 cs hf (fun i=>C.getD i Qr) hv)
theorem Qi5 {S S':Nat->Prop} {w w':World}:∀ (xs:List PV),Qj7 xs=true->∀ (g:Nat->Value),(∀ (i:Nat) x,xs[i]? = some x->RelP S w x (g i))->∀ (i:Nat) x,xs[i]? = some x->RelP S' w' x (g i)
 | [],_,_,_,i,x,hx=>by simp_all
 | y::xs,hf,g,h,i,x,hx=>by
  simp only [Qj7,Le] at hf
  cases i with
  | zero=>simp at hx;subst hx;exact Q5c y _ hf.1 (h 0 y rfl)
  | succ i=>exact Qi5 xs hf.2 (fun i=>g (i+1)) (fun i x hx=>h (i+1) x (by simp_all)) i x (by simp_all)
end

section
variable {P:Program} {Gl:Nat->Option (List PV)}
def Qdl {f:Nat} {args:List AV} {pargs:List PV} {r:PV} {H:List AObj} {Q:AV->List AObj->Prop} (hp:Qcp P Gl f pargs r) (hf:FrzL (fun _=>True) H args pargs) (hr:Q29 r=true) (hq:Q (.p r) H):Qq P Gl f args H Q:=by
 refine ⟨hp.1,fun θ w cargs ha hH hG=>?_⟩;obtain ⟨a1,a2⟩:=Qhp (S:=fun c=>¬ θ.bad c) hH (fun c h=>h.1) (fun a o l _ ho hl hθ hb=>hH.good a o l ho hl hθ hb) hf ha;refine (hp.2 θ.bad w cargs hH.badlt a1 a2 (Qh9 hG (fun c _ hf=>hf.1))).mono ?_
 rintro e w' ⟨cr,rfl,q1,q2⟩
 obtain ⟨h1,h2⟩:=Qdb hH q2;exact ⟨_,cr,H,θ,rfl,hq,.p _ _ (Q5c r cr hr q1),h1,h2⟩
end

def Qgp {θ:Th} {w:World}:∀ (R:List Nat) {H:List AObj},Hp θ H w->Hp θ (Q5l (R.map fun a=>(a,.dead)) H) w∧EvoS θ H w θ (Q5l (R.map fun a=>(a,.dead)) H) w ∧
  (∀ a∈R,a<H.length->(Q5l (R.map fun a=>(a,.dead)) H)[a]? = some .dead)∧(∀ (a:Nat) (o:AObj),(Q5l (R.map fun a=>(a,.dead)) H)[a]? = some o->o.live=true->H[a]? = some o)
 | [],H,h=>⟨h,.refl _ _ _,fun a ha=>by simp_all,fun a o ha _=>ha⟩
 | b::R,H,h=>by
  have step:Hp θ (H.set b .dead) w∧EvoS θ H w θ (H.set b .dead) w:=by
   cases hb:H[b]? with
   | none=>
    have:H.set b .dead=H:=by simp_all [List.set_eq_of_length_le]
    rw [this];exact ⟨h,.refl _ _ _⟩
   | some o=>
    by_cases ho:o.live=true
    ·obtain ⟨k1,k2⟩:=Qm4 h hb ho;exact ⟨k1,k2,by simp,fun _ _=>rfl⟩
    have ho:o = .dead:=by grind [AObj.live]
    subst ho;have hlt:=(Ld.1 hb).1
    have:H.set b .dead=H:=by
     apply Lw ;intro i
     by_cases hi:b=i
     ·simp_all
     simp_all
    rw [this];exact ⟨h,.refl _ _ _⟩
  obtain ⟨s1,s2⟩:=step;obtain ⟨k1,k2,k3,k4⟩:=Qgp R s1
  have keep:∀ (L:List Nat) (G:List AObj) (a:Nat),G[a]? = some .dead->(Q5l (L.map fun a=>(a,AObj.dead)) G)[a]? = some .dead:=by
   intro L
   induction L with
   | nil=>intro G a ha;exact ha
   | cons c L ih=>
    intro G a ha;refine ih (G.set c .dead) a ?_<;>grind
  refine ⟨k1,s2.trans k2,fun a ha hlt=>?_,fun a o ha ho=>?_⟩
  ·rcases Lx.1 ha with rfl | ha
   ·exact keep R (H.set a .dead) a (by simp_all)
   exact k3 a ha (by simp_all)
  have h1:=k4 a o ha ho
  grind [AObj.live]
def Qz6 {P:Program} {Gl:Nat->Option (List PV)} {f:Nat} {args:List AV} {pargs:List PV} {r:PV} {H:List AObj} {Q:AV->List AObj->Prop} (R:List Nat) (hp:Qcp P Gl f pargs r) (hf:FrzL (fun a=>a∈R) H args pargs)
  (hR:∀ a∈R,a<H.length) (hq:Q (.p r) (Q5l (R.map fun a=>(a,.dead)) H)):Qq P Gl f args H Q:=by
 refine ⟨hp.1,fun θ w cargs ha hH hG=>?_⟩;obtain ⟨k1,k2,k3,k4⟩:=Qgp R hH;generalize hK:Q5l (R.map fun a=>(a,AObj.dead)) H=K at k1 k2 k3 k4 hq;have hfree:∀ c,Qu θ H c->Qu θ K c:=fun c hc=>⟨hc.1,fun a o l h1 h2 h3=>hc.2 a o l (k4 a o h1 h2) h2 h3⟩
 obtain ⟨a1,a2⟩:=Qhp (S:=Qu θ K) hH (fun c h=>hfree c h) (fun a o l hk ho hl hθ c hc=>⟨hH.good a o l ho hl hθ c hc,fun b ob lb h1 h2 h3 e=>by
  have h4:=k4 b ob h1 h2
  by_cases hab:a=b
  ·grind [AObj.live]
  exact hH.dist a b o ob l lb ho h4 hl h2 hθ h3 hab c hc e⟩) hf ha
 have hbad:∀ c,c<w.heap.size->Qu θ K c->¬ (c<w.heap.size∧¬ Qu θ K c):=fun c _ h h'=>h'.2 h;have hGK:=hG.evo k2.toEvo;refine (hp.2 (fun c=>c<w.heap.size∧¬ Qu θ K c) w cargs (fun c h=>h.1) a1 (fun i x hx=>(a2 i x hx).mono (fun c _ hfr=>⟨fun h=>h.2 hfr,rfl⟩)) (Qh9 hGK hbad)).mono ?_
 rintro e w' ⟨cr,rfl,q1,q2⟩
 obtain ⟨h1,h2⟩:=Qdb k1 q2;refine ⟨_,cr,K,θ,rfl,hq,.p _ _ (q1.mono (fun c hc hn=>⟨?_,rfl⟩)),h1,k2.trans h2⟩
 by_cases hlt:c<w.heap.size
 ·simp_all
 refine ⟨fun hb=>hlt (k1.badlt c hb),fun a o l ha hl hθ e=>?_⟩;have:=(k1.obj a o l ha hθ).lt hl c e;omega
def Qlb {P:Program} {Gl:Nat->Option (List PV)} {f:Nat} {args:List AV} {pargs:List PV} {r:PV} {H:List AObj} {k:AV->List AObj->List Nat->List Nat->Prop} (R:List Nat) (hp:Qcp P Gl f pargs r) (hf:FrzL (fun a=>a∈R) H args pargs)
  (hR:∀ a∈R,a<H.length) (hk:k (.p r) (Q5l (R.map fun a=>(a,.dead)) H) R R):Wz P Gl f args H k:=by
 refine .inl ⟨R,R.map fun a=>(a,.dead),.p r,fun s hs=>?_,fun H2 hH2=>?_,?_⟩
 rotate_left 2
 ·have e:(R.map fun a=>(a,AObj.dead)).map (·.1)=R:=by rw [Mr];exact List.map_id' R
  simp_all
 ·grind
 refine Qz6 R hp (hf.K (fun a o h1 h2=>⟨h1,hH2 a h1 o h2⟩)) (fun a ha=>?_) ⟨rfl,rfl⟩;have h1:=hR a ha;have:H2[a]? = some H[a]:=hH2 a ha _ (La h1)
 grind
def Z59:Nat:=40
def Qjd (H:List AObj) (vs:List AV):Option (List PV):=Qzj (Qvc Z59 H) vs
def Q5i (H:List AObj) (vs:List AV):List Nat:=vs.flatMap (Q5o Z59 H)
def Q4e {H:List AObj} (vs:List AV) (xs:List PV) (h:Qjd H vs=some xs):FrzL (fun a=>a∈Q5i H vs) H vs xs:=Q67 (fun v x h=>Qdc Z59 v x h) vs xs h
end
end Go.Av
namespace Go.Av
noncomputable section
set_option maxHeartbeats 4000000
section
variable {P:Program} {Gl:Nat->Option (List PV)}

def Qku {f n:Nat} {args:List AV} {r:AV} (hargs:refsLt.refsLts n args=true) (hr:refsLt n r=true) (hc:Qq P Gl f args (List.replicate n .dead) (fun v _=>v=r)) (H:List AObj) :
  Qq P Gl f args H (fun v H'=>v=r∧H'=H):=by
 refine ⟨hc.1,fun θ w cargs ha hH hG=>?_⟩
 let bad0:Nat->Prop:=fun c=>c<w.heap.size∧¬ Qu θ H c
 let θ0:Th:=⟨fun a=>if a<n then θ a else none,bad0⟩
 let H0:List AObj:=List.replicate n .dead
 have dead:∀ (a:Nat) o,H0[a]? = some o->o.live=false:=fun a o h=>by
  simp only [H0,My] at h;split at h
  ·cases h;rfl
  simp_all
 have nl:∀ c,NL θ0 H0 c:=fun c a o l h hl _=>by grind
 have hfree:∀ c,Qu θ H c->Qu θ0 H0 c:=fun c hf=>⟨fun hb=>hb.2 hf,nl c⟩
 have hH0:Hp θ0 H0 w:=by
  refine ⟨fun a o l h _=>?_,fun a b oa ob la lb h _ hl _ _ _ _=>?_,fun a h=>?_,fun a o l h hl _=>?_,fun c hc=>hc.1,fun b R e h=>by grind⟩
  ·have:=dead a o h
   cases o<;>first | (cases this;done) | trivial
  ·grind
  ·grind
  grind
 have hG0:GlobOK Gl θ0 H0 w:=aJ
 have ha0:Q6h θ0 (Qu θ0 H0) w args cargs:=by
  refine ⟨ha.1,fun i v hv=>?_⟩;have h1:=Q7o (θ := θ) (S:=Qu θ H) (w:=w) (n:=n) args hargs (fun i=>cargs.getD i Qr) (fun i x hx=>ha.2 i x hx) i v hv;exact fj
 refine (hc.2 θ0 w cargs ha0 hH0 hG0).mono ?_
 rintro e w' ⟨v,cr,H',θ',rfl,rfl,q2,q3,q4⟩
 have hb:RowKit.Below w.heap.size w w':=⟨q4.os,q4.tape,q4.output,q4.size,fun c hc=>(q4.nl c hc (nl c)).2⟩;obtain ⟨g1,g2⟩:=Qdb hH hb;refine ⟨v,cr,H,θ,rfl,⟨rfl,rfl⟩,?_,g1,g2⟩;have h2:=Qd7 (θ := θ') (S:=Qu θ' H') (w:=w') v cr hr q2;refine h2.mono (θ' := θ) (fun a l h=>?_) (fun c hc hf=>⟨?_,rfl⟩)
 ·simp only [cutθ] at h;split at h
  ·rename_i hlt;rw [q4.old a (by simp_all)] at h
   grind
  simp_all
 have hbe : θ'.bad=bad0:=q4.bad
 by_cases hlt:c<w.heap.size
 ·have h3:=hf.1
  grind
 exact ek
end
end
end Go.Av
namespace Go.Av
noncomputable section
set_option maxHeartbeats 4000000
section
variable {P:Program} {Gl:Nat->Option (List PV)}
def Qnb (R:List Nat) (H:List AObj):List AObj:=(List.range H.length).map fun i=>if R.contains i then H.getD i .dead else .dead
theorem Qmw (R:List Nat) (H:List AObj):(Qnb R H).length=H.length:=by simp [Qnb]
theorem Z2a {R:List Nat} {H:List AObj} {a:Nat} {o:AObj} (h:(Qnb R H)[a]? = some o) (hl:o.live=true):a∈R∧H[a]? = some o:=by
 unfold Qnb at h;rw [Ll] at h
 cases hr:(List.range H.length)[a]? with
 | none=>simp_all
 | some i=>
  have hlt:=(Ld.1 hr).1;simp only [List.length_range] at hlt
  have hi:i=a:=by simp_all
  subst hi;simp only [hr,Mq,Lb] at h;split at h
  ·simp_all
  subst h;cases hl
theorem Qx5 {R:List Nat} {H:List AObj} {a:Nat} {o:AObj} (hr:a∈R) (h:H[a]? = some o):(Qnb R H)[a]? = some o:=by
 grind [Qnb]
def Qis {θ θ':Th} {S S':Nat->Prop} {w:World} {n:Nat} {o:AObj} {l:Loc} (hr:Q1s n o=true) (h:RelObj θ' S' w o l) (hθ:∀ a l,a<n->θ' a=some l->θ a=some l)
  (hS:∀ c,c<w.heap.size->S' c->S c):RelObj θ S w o l:=by
 have cv:∀ v x,refsLt n v=true->RelV θ' S' w v x->RelV θ S w v x:=fun v x h1 h2=>
  (Qd7 v x h1 h2).mono (fun a l ha=>by
   simp_all [cutθ]) (fun c hc hs=>⟨hS c hc hs,rfl⟩)
 cases o with
 | cells cs=>
  obtain ⟨C,t,fz,h1,h2,h3,h4,h5⟩:=h;refine ⟨C,t,fz,h1,h2,h3,h4,fun j v hj=>⟨?_,(h5 j v hj).2⟩⟩;refine cv v _ ?_ (h5 j v hj).1
  have:∀ (l:List AV),refsLt.refsLts n l=true->∀ (j:Nat) v,l[j]? = some v->refsLt n v=true:=by
   intro l
   induction l with
   | nil=>simp
   | cons x l ih=>
    grind [refsLt.refsLts]
  exact this cs hr j v hj
 | map es=>
  obtain ⟨E,clock,h1,h2,h4,h3⟩:=h;refine ⟨E,clock,h1,h2,h4,fun i k v hi=>⟨(h3 i k v hi).1.mono (fun c hc hs=>⟨hS c hc hs,rfl⟩),?_⟩⟩;refine cv v _ ?_ (h3 i k v hi).2;have:=Ln.1 hr (k,v) (Mu.2 ⟨i,hi⟩);omega
 | strIter s pos=>exact h
 | dead=>trivial
 | ext R a=>
  obtain ⟨⟨la,h1,h2⟩,h3⟩:=h;exact ⟨⟨la,hθ a la (Aa hr) h1,h2⟩,h3⟩
def Qv5 {f:Nat} {args:List AV} {r:AV} {H:List AObj} (R:List Nat) (hargs:refsLt.refsLts H.length args=true) (hr:refsLt H.length r=true) (hobj:∀ a∈R,∀ o,H[a]? = some o->Q1s H.length o=true)
  (hc:Qq P Gl f args (Qnb R H) (fun v H'=>v=r∧∃ rest,H'=Qnb R H++rest)) (H2:List AObj) (hH2:∀ a∈R,∀ o,H[a]? = some o->H2[a]? = some o) :
  Qq P Gl f args H2 (fun v H'=>v=r∧H'=H2):=by
 refine ⟨hc.1,fun θ w cargs ha hH hG=>?_⟩
 let n:=H.length
 let blk:Nat->Prop:=fun c=>∃ a o l,a∈R∧H[a]? = some o∧o.live=true ∧ θ a=some l∧o.occ l c
 let bad0:Nat->Prop:=fun c=>c<w.heap.size∧¬ Qu θ H2 c∧¬ blk c
 let θ0:Th:=⟨fun a=>if a<n then θ a else none,bad0⟩
 let H0:List AObj:=Qnb R H
 have t0:∀ a l,θ0 a=some l->a<n ∧ θ a=some l:=fun a l h=>by
  grind
 have live0:∀ (a:Nat) o,H0[a]? = some o->o.live=true->a∈R∧H[a]? = some o∧H2[a]? = some o∧a<n:=fun a o h hl=>by
  grind [Z2a]
 have nl0:∀ c,NL θ H2 c->NL θ0 H0 c:=fun c h a o l ho hl hθ=>by
  obtain ⟨_,_,h3,_⟩:=live0 a o ho hl;exact h a o l h3 hl (t0 a l hθ).2
 have hfree:∀ c,Qu θ H2 c->Qu θ0 H0 c:=fun c hf=>⟨fun hb=>hb.2.1 hf,nl0 c hf.2⟩;have hmp:∀ x v,RelP (Qu θ H2) w x v->RelP (Qu θ0 H0) w x v:=fun x v h=>h.mono (fun c _ hf=>⟨hfree c hf,rfl⟩)
 have hH0:Hp θ0 H0 w:=by
  refine ⟨fun a o l ho hθ=>?_,fun a b oa ob la lb hoa hob hla hlb hθa hθb hne=>?_,fun a hlen=>?_,fun a o l ho hl hθ=>?_,fun c hc=>hc.1,fun b R e hb=>by
   obtain ⟨_,_,h3,h4⟩:=live0 b _ hb rfl
   obtain ⟨l,hl⟩:=hH.tok b R e h3<;>grind⟩
  ·cases hlv:o.live with
   | false=>exact d5
   | true=>
    obtain ⟨h1,h2,h3,h4⟩:=live0 a o ho hlv;refine Qis (hobj a h1 o h2) (hH.obj a o l h3 (t0 a l hθ).2) (fun b lb hb hθb=>?_) (fun c _ hf=>hfree c hf)
    grind
  ·obtain ⟨_,_,h3,_⟩:=live0 a oa hoa hla;obtain ⟨_,_,h4,_⟩:=live0 b ob hob hlb;exact hH.dist a b oa ob la lb h3 h4 hla hlb (t0 a la hθa).2 (t0 b lb hθb).2 hne
  ·grind [Qmw]
  grind
 have hG0:GlobOK Gl θ0 H0 w:=aH
 have ha0:Q6h θ0 (Qu θ0 H0) w args cargs:=by
  refine ⟨ha.1,fun i v hv=>?_⟩;have h1:=Q7o (θ := θ) (S:=Qu θ H2) (w:=w) (n:=n) args hargs (fun i=>cargs.getD i Qr) (fun i x hx=>ha.2 i x hx) i v hv;exact fj
 refine (hc.2 θ0 w cargs ha0 hH0 hG0).mono ?_
 rintro e w' ⟨v,cr,H',θ',rfl,⟨rfl,rest,rfl⟩,q2,q3,q4⟩
 have hbe : θ'.bad=bad0:=q4.bad
 have old:∀ a,a<n->θ' a = θ a:=fun a h=>by
  rw [q4.old a (by grind [Qmw])]
  grind
 have hS:∀ c,c<w'.heap.size->Qu θ' (Qnb R H++rest) c->Qu θ H2 c:=fun c _ hf=>by
  by_cases hlt:c<w.heap.size
  ·have h3:=hf.1;rw [hbe] at h3;refine Lo fun hn=>h3 ⟨hlt,hn,?_⟩
   rintro ⟨a,o,l,h1,h2,h4,h5,h6⟩
   have hal:=(Ld.1 h2).1;have hm:=Qx5 h1 h2;refine hf.2 a o l ?_ h4 (by rw [old a hal];exact h5) h6<;>simp_all [List.getElem?_append_left,Qmw]
  refine ⟨fun hb=>hlt (hH.badlt c hb),fun a o l ho hl hθ e=>?_⟩;have:=(hH.obj a o l ho hθ).lt hl c e;omega
 have hsame:∀ c,c<w.heap.size->NL θ0 H0 c->w'.heap[c]? = w.heap[c]? := fun c hc hn=>(q4.nl c hc hn).2
 have hHp:Hp θ H2 w':=by
  refine ⟨fun b o l hb hθ=>?_,hH.dist,hH.fresh,hH.good,fun c hc=>Lu (hH.badlt c hc) q4.size,hH.tok⟩
  cases hlv:o.live with
  | false=>exact d5
  | true=>
   by_cases hin:b∈R∧∃ o',H[b]? = some o'
   ·obtain ⟨h1,o',h2⟩:=hin;have h3:=hH2 b h1 o' h2;rw [hb] at h3;cases h3;have hbl:=(Ld.1 h2).1
    have hm:(Qnb R H++rest)[b]? = some o:=by grind [Qx5]
    exact Qis (hobj b h1 o h2) (q3.obj b o l hm (by grind)) (fun a la ha hθa=>by grind) hS
   have hr0:=hH.obj b o l hb hθ;refine hr0.mono (fun _ _ e=>e) (fun c hc hf=>⟨hf,hsame c hc (nl0 c hf.2)⟩) (fun hbl c hc=>hsame _ (hr0.lt hbl c hc) (fun a oa la hoa hla hθa e=>?_)) q4.size;obtain ⟨h1,h2,h3,_⟩:=live0 a oa hoa hla
   by_cases hab:a=b
   ·simp_all
   exact hH.dist a b oa o la l h3 hb hla hlv (t0 a la hθa).2 hθ hab c e hc
 refine ⟨v,cr,H2,θ,rfl,⟨rfl,rfl⟩,?_,hHp,⟨⟨fun _ _ e=>e,rfl,fun c hc hn=>⟨hn,hsame c hc (nl0 c hn)⟩,q4.size,q4.os,q4.tape,q4.output⟩,Lh _,fun _ _=>rfl⟩⟩;have h2:=Qd7 (θ := θ') (S:=Qu θ' (Qnb R H++rest)) (w:=w') v cr hr q2;refine h2.mono (θ' := θ) (fun a l h=>?_) (fun c hc hf=>⟨hS c hc hf,rfl⟩)
 grind [cutθ]
theorem Q7a {f:Nat} {args:List AV} {H:List AObj} {r:AV} {k:AV->List AObj->List Nat->List Nat->Prop} (R:List Nat) (hargs:refsLt.refsLts H.length args=true) (hr:refsLt H.length r=true)
  (hobj:∀ a∈R,∀ o,H[a]? = some o->Q1s H.length o=true) (hc:Qq P Gl f args (Qnb R H) (fun v H'=>v=r∧∃ rest,H'=Qnb R H++rest)) (hk:k r H R []):Wz P Gl f args H k:=
 .inl ⟨R,[],r,fun s h=>(by cases h),fun H2 h2=>Vf (Qv5 R hargs hr hobj hc H2 h2) (fun _ _ ⟨e1,e2⟩=>⟨e1,e2⟩),hk⟩
end
end
end Go.Av
namespace Go.Av
noncomputable section
set_option maxHeartbeats 4000000
mutual
def Qlc:PV->PV->Bool
 | .bool a,.bool b=>a == b
 | .int k n,.int k' n'=>decide (k=k')&&decide (n=n')
 | .str s,.str t=>decide (s=t)
 | .nilPtr,.nilPtr=>true
 | .nilSlice,.nilSlice=>true
 | .slice0,.slice0=>true
 | .slice e r,.slice e' r'=>Nat.beq e e'&&Qk5 r r'
 | .nilMap,.nilMap=>true
 | .func (.func f) a b,.func (.func g) c d=>Nat.beq f g&&(Qh8 a c&&Qh8 b d)
 | .nilFunc,.nilFunc=>true
 | .nilIface,.nilIface=>true
 | .agg a,.agg b=>Qh8 a b
 | .tuple a,.tuple b=>Qh8 a b
 | _,_=>false
def Qh8:List PV->List PV->Bool
 | [],[]=>true
 | a::r,b::s=>Qlc a b&&Qh8 r s
 | _,_=>false
def Qk5:List (List PV)->List (List PV)->Bool
 | [],[]=>true
 | a::r,b::s=>Qh8 a b&&Qk5 r s
 | _,_=>false
end
mutual
theorem Qr3:∀ (a b:PV),Qlc a b=true->a=b
 | .bool a,b,h=> fo
 | .int k n,b,h=> fo
 | .str s,b,h=> fo
 | .nilPtr,b,h=> fV
 | .nilSlice,b,h=> fV
 | .slice0,b,h=> fV
 | .slice e r,b,h=>by
  cases b<;>simp [Qlc] at h;obtain ⟨rfl,h2⟩:=h;rw [Qpd r _ h2]
 | .nilMap,b,h=> fV
 | .pmap es,b,h=>by simp_all [Qlc]
 | .func fn a c,b,h=>by
  cases b<;>cases fn<;>try (simp [Qlc] at h;done)
  rename_i fn' a' c' f;cases fn'<;>simp [Qlc] at h;obtain ⟨rfl,h2,h3⟩:=h;rw [Q9f a _ h2,Q9f c _ h3]
 | .nilFunc,b,h=> fV
 | .iface t v,b,h=>by simp_all [Qlc]
 | .nilIface,b,h=> fV
 | .agg a,b,h=> iT
 | .tuple a,b,h=> iT
theorem Q9f:∀ (a b:List PV),Qh8 a b=true->a=b
 | [],b,h=>by grind [Qh8]
 | x::r,b,h=>by
  cases b with
  | nil=>simp [Qh8] at h
  | cons y s=>
   simp only [Qh8,Le] at h;rw [Qr3 x y h.1,Q9f r s h.2]
theorem Qpd:∀ (a b:List (List PV)),Qk5 a b=true->a=b
 | [],b,h=>by grind [Qk5]
 | x::r,b,h=>by
  cases b with
  | nil=>simp [Qk5] at h
  | cons y s=>
   simp only [Qk5,Le] at h;rw [Q9f x y h.1,Qpd r s h.2]
end
mutual
def Qpv:AV->AV->Bool
 | .p a,.p b=>Qlc a b
 | .ptr a o,.ptr b p=>Nat.beq a b&&Nat.beq o p
 | .gptr a o,.gptr b p=>Nat.beq a b&&Nat.beq o p
 | .rptr a,.rptr b=>Qh8 a b
 | .slice e a o l,.slice e' a' o' l'=>Nat.beq e e'&&(Nat.beq a a'&&(Nat.beq o o'&&Nat.beq l l'))
 | .map a,.map b=>Nat.beq a b
 | .func (.func f) a b,.func (.func g) c d=>Nat.beq f g&&(Qjn a c&&Qjn b d)
 | .iface t v,.iface t' v'=>Nat.beq t t'&&Qpv v v'
 | .agg a,.agg b=>Qjn a b
 | .tuple a,.tuple b=>Qjn a b
 | .any,.any=>true
 | _,_=>false
def Qjn:List AV->List AV->Bool
 | [],[]=>true
 | a::r,b::s=>Qpv a b&&Qjn r s
 | _,_=>false
end
mutual
def Qrd:∀ (a b:AV),Qpv a b=true->a=b
 | .p a,b,h=>by cases b<;>simp [Qpv] at h;grind [Qr3]
 | .ptr a o,b,h=> dR
 | .gptr a o,b,h=> dR
 | .rptr a,b,h=>by cases b<;>simp [Qpv] at h;grind [Q9f]
 | .slice e a o l,b,h=> dR
 | .map a,b,h=> dR
 | .func fn a c,b,h=>by
  cases b<;>cases fn<;>try (simp [Qpv] at h;done)
  rename_i fn' a' c' f;cases fn'<;>simp [Qpv] at h;obtain ⟨rfl,h2,h3⟩:=h;rw [Qbv a _ h2,Qbv c _ h3]
 | .iface t v,b,h=>by
  cases b<;>simp [Qpv] at h;obtain ⟨h1,h2⟩:=h;rw [Qrd v _ h2,h1]
 | .agg a,b,h=> iV
 | .tuple a,b,h=> iV
 | .any,b,h=>by grind [Qpv]
def Qbv:∀ (a b:List AV),Qjn a b=true->a=b
 | [],b,h=>by grind [Qjn]
 | x::r,b,h=>by
  cases b with
  | nil=>simp [Qjn] at h
  | cons y s=>
   simp only [Qjn,Le] at h;rw [Qrd x y h.1,Qbv r s h.2]
end
def Qul:List (PV×AV)->List (PV×AV)->Bool
 | [],[]=>true
 | (k,v)::r,(k',v')::s=>Qlc k k'&&(Qpv v v'&&Qul r s)
 | _,_=>false
def Qs3:∀ (a b:List (PV×AV)),Qul a b=true->a=b
 | [],[],_=>rfl
 | (k,v)::r,(k',v')::s,h=>by
  simp only [Qul,Le] at h;rw [Qr3 k k' h.1,Qrd v v' h.2.1,Qs3 r s h.2.2]
 | [],_::_,h=>by simp [Qul] at h
 | _::_,[],h=>by simp [Qul] at h
def Z6d:AObj->AObj->Bool
 | .map a,.map b=>Qul a b
 | .cells a,.cells b=>Qjn a b
 | .strIter s p,.strIter t q=>decide (s=t)&&Nat.beq p q
 | .dead,.dead=>true
 | _,_=>false
theorem Z1d (a b:AObj) (h:Z6d a b=true):a=b:=by
 cases a<;>cases b<;>simp [Z6d] at h
 ·rw [Qbv _ _ h]
 ·rw [Qs3 _ _ h]
 ·simp_all
 rfl
def Qw7:List AObj->List AObj->Bool
 | [],_=>true
 | o::r,o'::r'=>Z6d o o'&&Qw7 r r'
 | _::_,[]=>false
theorem Qsm:∀ (m H:List AObj),Qw7 m H=true->∃ rest,H=m++rest
 | [],H,_=>⟨H,rfl⟩
 | o::r,o'::r',h=>by
  simp only [Qw7,Le] at h;obtain ⟨rest,e⟩:=Qsm r r' h.2;exact ⟨rest,by grind [Z1d]⟩
 | _::_,[],h=>by simp [Qw7] at h
def Qre (g:AV->List Nat):Option AObj->List Nat
 | some (.cells cs)=>cs.flatMap g
 | some (.map es)=>es.flatMap fun q=>g q.2
 | _ => []
def Qlf:Nat->List AObj->AV->List Nat
 | 0,_,_ => []
 | n+1,H,v=>match v with
  | .ptr a _=>a::Qre (Qlf n H) (H[a]?)
  | .slice _ a _ _=>a::Qre (Qlf n H) (H[a]?)
  | .map a=>a::Qre (Qlf n H) (H[a]?)
  | .func _ a b=>a.flatMap (Qlf n H)++b.flatMap (Qlf n H)
  | .iface _ v=>Qlf n H v
  | .agg cs=>cs.flatMap (Qlf n H)
  | .tuple cs=>cs.flatMap (Qlf n H)
  | _ => []
end
end Go.Av
