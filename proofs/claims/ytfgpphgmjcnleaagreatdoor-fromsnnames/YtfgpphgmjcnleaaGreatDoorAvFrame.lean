/- Part of FromsnNames: the law returns true; no condition. -/
import Derived.Test.YtfgpphgmjcnleaaGreatDoorAvLook
import Derived.Test.YtfgpphgmjcnleaaGreatDoorAvMeth
import Derived.Test.YtfgpphgmjcnleaaGreatDoorAvDraws
import Derived.Test.YtfgpphgmjcnleaaGreatDoorAvBase
set_option linter.all false
namespace Go.Av
noncomputable section
section
variable {P:Program} {Gl:Nat->Option (List PV)}
def Qdx (R:List Nat) (H:List AObj):List AObj:=(List.range H.length).map fun i=>if R.contains i then H.getD i .dead else .dead
theorem Q91 (R:List Nat) (H:List AObj):(Qdx R H).length=H.length:=by simp [Qdx]
theorem Qmn {R:List Nat} {H:List AObj} {a:Nat} {o:AObj} (h:(Qdx R H)[a]? = some o) (hl:o.live=true):a∈R∧H[a]? = some o:=by
 unfold Qdx at h;rw [Lk] at h
 cases hr:(List.range H.length)[a]? with
 | none=>simp [hr] at h
 | some i=>
  have hlt:=(La.1 hr).1;simp only [List.length_range] at hlt
  have hi:i=a:=by simpa [List.getElem?_range hlt] using hr.symm
  subst hi;simp only [hr,Mc,Ld] at h;split at h
  ·rename_i hc;subst h;refine ⟨by simpa using hc,?_⟩;rw [Le,Lc hlt];rfl
  subst h;cases hl
theorem Qlx {R:List Nat} {H:List AObj} {a:Nat} {o:AObj} (hr:a∈R) (h:H[a]? = some o):(Qdx R H)[a]? = some o:=by
 have hlt:=(La.1 h).1;unfold Qdx;rw [Lk,Ce hlt];simp only [Mc,Nn.2 hr,Ak,Ld];rw [Le,h];rfl
theorem Qai {θ θ':Th} {S S':Nat->Prop} {w:World} {n:Nat} {o:AObj} {l:Loc} (hr:Yn n o=true) (h:RelObj θ' S' w o l) (hθ:∀ a l,a<n->θ' a=some l->θ a=some l)
  (hS:∀ c,c<w.heap.size->S' c->S c):RelObj θ S w o l:=by
 have cv:∀ v x,refsLt n v=true->RelV θ' S' w v x->RelV θ S w v x:=fun v x h1 h2=>
  (Q64 v x h1 h2).mono (fun a l ha=>by
   simp only [cutθ] at ha;split at ha
   ·exact hθ a l (by assumption) ha
   cases ha) (fun c hc hs=>⟨hS c hc hs,rfl⟩)
 cases o with
 | cells cs=>
  obtain ⟨C,t,fz,h1,h2,h3,h4,h5⟩:=h;refine ⟨C,t,fz,h1,h2,h3,h4,fun j v hj=>⟨?_,(h5 j v hj).2⟩⟩;refine cv v _ ?_ (h5 j v hj).1
  have:∀ (l:List AV),refsLt.refsLts n l=true->∀ (j:Nat) v,l[j]? = some v->refsLt n v=true:=by
   intro l
   induction l with
   | nil=>intro _ j v hv;simp at hv
   | cons x l ih=>
    intro hl j v hv;simp only [refsLt.refsLts,Lb] at hl
    cases j with
    | zero=>simp at hv;subst hv;exact hl.1
    | succ j=>exact ih hl.2 j v (by simpa using hv)
  exact this cs hr j v hj
 | map es=>
  obtain ⟨E,clock,h1,h2,h4,h3⟩:=h;refine ⟨E,clock,h1,h2,h4,fun i k v hi=>⟨(h3 i k v hi).1.mono (fun c hc hs=>⟨hS c hc hs,rfl⟩),?_⟩⟩;refine cv v _ ?_ (h3 i k v hi).2;have:=Lp.1 hr (k,v) (Mf.2 ⟨i,hi⟩);exact this
 | strIter s pos=>exact h
 | dead=>trivial
 | ext R a=>
  obtain ⟨⟨la,h1,h2⟩,h3⟩:=h;exact ⟨⟨la,hθ a la (Aa hr) h1,h2⟩,h3⟩
theorem Qjn {f:Nat} {args:List AV} {r:AV} {H:List AObj} (R:List Nat) (hargs:refsLt.refsLts H.length args=true) (hr:refsLt H.length r=true) (hobj:∀ a∈R,∀ o,H[a]? = some o->Yn H.length o=true)
  (hc:Q8 P Gl f args (Qdx R H) (fun v H'=>v=r∧∃ rest,H'=Qdx R H++rest)) (H2:List AObj) (hH2:∀ a∈R,∀ o,H[a]? = some o->H2[a]? = some o) :
  Q8 P Gl f args H2 (fun v H'=>v=r∧H'=H2):=by
 refine ⟨hc.1,fun θ w cargs ha hH hG=>?_⟩
 let n:=H.length
 let blk:Nat->Prop:=fun c=>∃ a o l,a∈R∧H[a]? = some o∧o.live=true ∧ θ a=some l∧o.occ l c
 let bad0:Nat->Prop:=fun c=>c<w.heap.size∧¬ Qe θ H2 c∧¬ blk c
 let θ0:Th:=⟨fun a=>if a<n then θ a else none,bad0⟩
 let H0:List AObj:=Qdx R H
 have t0:∀ a l,θ0 a=some l->a<n ∧ θ a=some l:=fun a l h=>by
  simp only [θ0] at h;split at h
  ·exact ⟨by assumption,h⟩
  cases h
 have live0:∀ (a:Nat) o,H0[a]? = some o->o.live=true->a∈R∧H[a]? = some o∧H2[a]? = some o∧a<n:=fun a o h hl=>by
  obtain ⟨h1,h2⟩:=Qmn h hl;exact ⟨h1,h2,hH2 a h1 o h2,(La.1 h2).1⟩
 have nl0:∀ c,NL θ H2 c->NL θ0 H0 c:=fun c h a o l ho hl hθ=>by
  obtain ⟨_,_,h3,_⟩:=live0 a o ho hl;exact h a o l h3 hl (t0 a l hθ).2
 have hfree:∀ c,Qe θ H2 c->Qe θ0 H0 c:=fun c hf=>⟨fun hb=>hb.2.1 hf,nl0 c hf.2⟩;have hmp:∀ x v,RelP (Qe θ H2) w x v->RelP (Qe θ0 H0) w x v:=fun x v h=>h.mono (fun c _ hf=>⟨hfree c hf,rfl⟩)
 have hH0:Hp θ0 H0 w:=by
  refine ⟨fun a o l ho hθ=>?_,fun a b oa ob la lb hoa hob hla hlb hθa hθb hne=>?_,fun a hlen=>?_,fun a o l ho hl hθ=>?_,fun c hc=>hc.1,fun b R e hb=>by
   obtain ⟨_,_,h3,h4⟩:=live0 b _ hb rfl;obtain ⟨l,hl⟩:=hH.tok b R e h3
   exact ⟨l,by simp only [θ0];rw [Af h4];exact hl⟩⟩
  ·cases hlv:o.live with
   | false=>cases o<;>first | (cases hlv;done) | trivial
   | true=>
    obtain ⟨h1,h2,h3,h4⟩:=live0 a o ho hlv;refine Qai (hobj a h1 o h2) (hH.obj a o l h3 (t0 a l hθ).2) (fun b lb hb hθb=>?_) (fun c _ hf=>hfree c hf);simp only [θ0];rw [Af hb];exact hθb
  ·obtain ⟨_,_,h3,_⟩:=live0 a oa hoa hla;obtain ⟨_,_,h4,_⟩:=live0 b ob hob hlb;exact hH.dist a b oa ob la lb h3 h4 hla hlb (t0 a la hθa).2 (t0 b lb hθb).2 hne
  ·simp only [H0,Q91] at hlen;simp only [θ0];rw [Ae (by omega)]
  obtain ⟨h1,h2,_,_⟩:=live0 a o ho hl;exact fun c hc hb=>hb.2.2 ⟨a,o,l,h1,h2,hl,(t0 a l hθ).2,hc⟩
 have hG0:GlobOK Gl θ0 H0 w:=by
  intro g cs hg;obtain ⟨g1,g2,vs',g3,g4,g5⟩:=hG g cs hg;exact ⟨g1,hfree g g2,vs',g3,g4,fun j x hx=>⟨(g5 j x hx).1,hmp _ _ (g5 j x hx).2⟩⟩
 have ha0:Q01 θ0 (Qe θ0 H0) w args cargs:=by
  refine ⟨ha.1,fun i v hv=>?_⟩;have h1:=Q0l (θ := θ) (S:=Qe θ H2) (w:=w) (n:=n) args hargs (fun i=>cargs.getD i Qc) (fun i x hx=>ha.2 i x hx) i v hv;exact Ap (θ:=cutθ θ n) (θ' := θ0) (fun _ _ e=>e) (fun c _ hf=>⟨hfree c hf,rfl⟩) h1
 refine (hc.2 θ0 w cargs ha0 hH0 hG0).mono ?_
 rintro e w' ⟨v,cr,H',θ',rfl,⟨rfl,rest,rfl⟩,q2,q3,q4⟩
 have hbe : θ'.bad=bad0:=q4.bad
 have old:∀ a,a<n->θ' a = θ a:=fun a h=>by
  rw [q4.old a (by simp only [Q91];exact h)];simp only [θ0];rw [Af h]
 have hS:∀ c,c<w'.heap.size->Qe θ' (Qdx R H++rest) c->Qe θ H2 c:=fun c _ hf=>by
  by_cases hlt:c<w.heap.size
  ·have h3:=hf.1;rw [hbe] at h3;refine Ln fun hn=>h3 ⟨hlt,hn,?_⟩
   rintro ⟨a,o,l,h1,h2,h4,h5,h6⟩
   have hal:=(La.1 h2).1;have hm:=Qlx h1 h2;refine hf.2 a o l ?_ h4 (by rw [old a hal];exact h5) h6;rw [Lh (by rw [Q91];exact hal)];exact hm
  refine ⟨fun hb=>hlt (hH.badlt c hb),fun a o l ho hl hθ e=>?_⟩;have:=(hH.obj a o l ho hθ).lt hl c e;omega
 have hsame:∀ c,c<w.heap.size->NL θ0 H0 c->w'.heap[c]? = w.heap[c]? := fun c hc hn=>(q4.nl c hc hn).2
 have hHp:Hp θ H2 w':=by
  refine ⟨fun b o l hb hθ=>?_,hH.dist,hH.fresh,hH.good,fun c hc=>Me (hH.badlt c hc) q4.size,hH.tok⟩
  cases hlv:o.live with
  | false=>cases o<;>first | (cases hlv;done) | trivial
  | true=>
   by_cases hin:b∈R∧∃ o',H[b]? = some o'
   ·obtain ⟨h1,o',h2⟩:=hin;have h3:=hH2 b h1 o' h2;rw [hb] at h3;cases h3;have hbl:=(La.1 h2).1
    have hm:(Qdx R H++rest)[b]? = some o:=by
     rw [Lh (by rw [Q91];exact hbl)];exact Qlx h1 h2
    exact Qai (hobj b h1 o h2) (q3.obj b o l hm (by rw [old b hbl];exact hθ)) (fun a la ha hθa=>by rw [← old a ha];exact hθa) hS
   have hr0:=hH.obj b o l hb hθ;refine hr0.mono (fun _ _ e=>e) (fun c hc hf=>⟨hf,hsame c hc (nl0 c hf.2)⟩) (fun hbl c hc=>hsame _ (hr0.lt hbl c hc) (fun a oa la hoa hla hθa e=>?_)) q4.size;obtain ⟨h1,h2,h3,_⟩:=live0 a oa hoa hla
   by_cases hab:a=b
   ·subst hab;exact hin ⟨h1,oa,h2⟩
   exact hH.dist a b oa o la l h3 hb hla hlv (t0 a la hθa).2 hθ hab c e hc
 refine ⟨v,cr,H2,θ,rfl,⟨rfl,rfl⟩,?_,hHp,⟨⟨fun _ _ e=>e,rfl,fun c hc hn=>⟨hn,hsame c hc (nl0 c hn)⟩,q4.size,q4.os,q4.tape,q4.output⟩,Lj _,fun _ _=>rfl⟩⟩;have h2:=Q64 (θ := θ') (S:=Qe θ' (Qdx R H++rest)) (w:=w') v cr hr q2;refine h2.mono (θ' := θ) (fun a l h=>?_) (fun c hc hf=>⟨hS c hc hf,rfl⟩);simp only [cutθ] at h;split at h
 ·rename_i hlt;rw [old a hlt] at h;exact h
 cases h
theorem Q0g {f:Nat} {args:List AV} {H:List AObj} {r:AV} {k:AV->List AObj->List Nat->List Nat->Prop} (R:List Nat) (hargs:refsLt.refsLts H.length args=true) (hr:refsLt H.length r=true)
  (hobj:∀ a∈R,∀ o,H[a]? = some o->Yn H.length o=true) (hc:Q8 P Gl f args (Qdx R H) (fun v H'=>v=r∧∃ rest,H'=Qdx R H++rest)) (hk:k r H R []):Qv P Gl f args H k:=
 .inl ⟨R,[],r,fun s h=>(by cases h),fun H2 h2=>Qo (Qjn R hargs hr hobj hc H2 h2) (fun _ _ ⟨e1,e2⟩=>⟨e1,e2⟩),hk⟩
end
end
end Go.Av
namespace Go.Av
noncomputable section
mutual
def Qc6:PV->PV->Bool
 | .bool a,.bool b=>a == b
 | .int k n,.int k' n'=>decide (k=k')&&decide (n=n')
 | .str s,.str t=>decide (s=t)
 | .nilPtr,.nilPtr=>true
 | .nilSlice,.nilSlice=>true
 | .slice0,.slice0=>true
 | .slice e r,.slice e' r'=>Nat.beq e e'&&Qbq r r'
 | .nilMap,.nilMap=>true
 | .func (.func f) a b,.func (.func g) c d=>Nat.beq f g&&(Qa8 a c&&Qa8 b d)
 | .nilFunc,.nilFunc=>true
 | .nilIface,.nilIface=>true
 | .agg a,.agg b=>Qa8 a b
 | .tuple a,.tuple b=>Qa8 a b
 | _,_=>false
def Qa8:List PV->List PV->Bool
 | [],[]=>true
 | a::r,b::s=>Qc6 a b&&Qa8 r s
 | _,_=>false
def Qbq:List (List PV)->List (List PV)->Bool
 | [],[]=>true
 | a::r,b::s=>Qa8 a b&&Qbq r s
 | _,_=>false
end
mutual
theorem Qg2:∀ (a b:PV),Qc6 a b=true->a=b
 | .bool a,b,h=>by cases b<;>simp [Qc6] at h;subst h;rfl
 | .int k n,b,h=>by cases b<;>simp [Qc6] at h;obtain ⟨rfl,rfl⟩:=h;rfl
 | .str s,b,h=>by cases b<;>simp [Qc6] at h;subst h;rfl
 | .nilPtr,b,h=>by cases b<;>simp [Qc6] at h;rfl
 | .nilSlice,b,h=>by cases b<;>simp [Qc6] at h;rfl
 | .slice0,b,h=>by cases b<;>simp [Qc6] at h;rfl
 | .slice e r,b,h=>by
  cases b<;>simp [Qc6] at h;obtain ⟨rfl,h2⟩:=h;rw [Qey r _ h2]
 | .nilMap,b,h=>by cases b<;>simp [Qc6] at h;rfl
 | .pmap es,b,h=>by cases b<;>simp [Qc6] at h
 | .func fn a c,b,h=>by
  cases b<;>cases fn<;>try (simp [Qc6] at h;done)
  rename_i fn' a' c' f;cases fn'<;>simp [Qc6] at h;obtain ⟨rfl,h2,h3⟩:=h;rw [Q2i a _ h2,Q2i c _ h3]
 | .nilFunc,b,h=>by cases b<;>simp [Qc6] at h;rfl
 | .iface t v,b,h=>by cases b<;>simp [Qc6] at h
 | .nilIface,b,h=>by cases b<;>simp [Qc6] at h;rfl
 | .agg a,b,h=>by
  cases b<;>simp [Qc6] at h;rw [Q2i a _ h]
 | .tuple a,b,h=>by
  cases b<;>simp [Qc6] at h;rw [Q2i a _ h]
theorem Q2i:∀ (a b:List PV),Qa8 a b=true->a=b
 | [],b,h=>by cases b<;>simp [Qa8] at h;rfl
 | x::r,b,h=>by
  cases b with
  | nil=>simp [Qa8] at h
  | cons y s=>
   simp only [Qa8,Lb] at h;rw [Qg2 x y h.1,Q2i r s h.2]
theorem Qey:∀ (a b:List (List PV)),Qbq a b=true->a=b
 | [],b,h=>by cases b<;>simp [Qbq] at h;rfl
 | x::r,b,h=>by
  cases b with
  | nil=>simp [Qbq] at h
  | cons y s=>
   simp only [Qbq,Lb] at h;rw [Q2i x y h.1,Qey r s h.2]
end
mutual
def Qfu:AV->AV->Bool
 | .p a,.p b=>Qc6 a b
 | .ptr a o,.ptr b p=>Nat.beq a b&&Nat.beq o p
 | .gptr a o,.gptr b p=>Nat.beq a b&&Nat.beq o p
 | .rptr a,.rptr b=>Qa8 a b
 | .slice e a o l,.slice e' a' o' l'=>Nat.beq e e'&&(Nat.beq a a'&&(Nat.beq o o'&&Nat.beq l l'))
 | .map a,.map b=>Nat.beq a b
 | .func (.func f) a b,.func (.func g) c d=>Nat.beq f g&&(Qb3 a c&&Qb3 b d)
 | .iface t v,.iface t' v'=>Nat.beq t t'&&Qfu v v'
 | .agg a,.agg b=>Qb3 a b
 | .tuple a,.tuple b=>Qb3 a b
 | .any,.any=>true
 | _,_=>false
def Qb3:List AV->List AV->Bool
 | [],[]=>true
 | a::r,b::s=>Qfu a b&&Qb3 r s
 | _,_=>false
end
mutual
theorem Qg4:∀ (a b:AV),Qfu a b=true->a=b
 | .p a,b,h=>by cases b<;>simp [Qfu] at h;rw [Qg2 _ _ h]
 | .ptr a o,b,h=>by cases b<;>simp [Qfu] at h;obtain ⟨rfl,rfl⟩:=h;rfl
 | .gptr a o,b,h=>by cases b<;>simp [Qfu] at h;obtain ⟨rfl,rfl⟩:=h;rfl
 | .rptr a,b,h=>by cases b<;>simp [Qfu] at h;rw [Q2i _ _ h]
 | .slice e a o l,b,h=>by cases b<;>simp [Qfu] at h;obtain ⟨rfl,rfl,rfl,rfl⟩:=h;rfl
 | .map a,b,h=>by cases b<;>simp [Qfu] at h;subst h;rfl
 | .func fn a c,b,h=>by
  cases b<;>cases fn<;>try (simp [Qfu] at h;done)
  rename_i fn' a' c' f;cases fn'<;>simp [Qfu] at h;obtain ⟨rfl,h2,h3⟩:=h;rw [Q4k a _ h2,Q4k c _ h3]
 | .iface t v,b,h=>by
  cases b<;>simp [Qfu] at h;obtain ⟨h1,h2⟩:=h;rw [Qg4 v _ h2,h1]
 | .agg a,b,h=>by
  cases b<;>simp [Qfu] at h;rw [Q4k a _ h]
 | .tuple a,b,h=>by
  cases b<;>simp [Qfu] at h;rw [Q4k a _ h]
 | .any,b,h=>by cases b<;>simp [Qfu] at h;rfl
theorem Q4k:∀ (a b:List AV),Qb3 a b=true->a=b
 | [],b,h=>by cases b<;>simp [Qb3] at h;rfl
 | x::r,b,h=>by
  cases b with
  | nil=>simp [Qb3] at h
  | cons y s=>
   simp only [Qb3,Lb] at h;rw [Qg4 x y h.1,Q4k r s h.2]
end
def Qj6:List (PV×AV)->List (PV×AV)->Bool
 | [],[]=>true
 | (k,v)::r,(k',v')::s=>Qc6 k k'&&(Qfu v v'&&Qj6 r s)
 | _,_=>false
theorem Qhe:∀ (a b:List (PV×AV)),Qj6 a b=true->a=b
 | [],[],_=>rfl
 | (k,v)::r,(k',v')::s,h=>by
  simp only [Qj6,Lb] at h;rw [Qg2 k k' h.1,Qg4 v v' h.2.1,Qhe r s h.2.2]
 | [],_::_,h=>by simp [Qj6] at h
 | _::_,[],h=>by simp [Qj6] at h
def Qqg:AObj->AObj->Bool
 | .map a,.map b=>Qj6 a b
 | .cells a,.cells b=>Qb3 a b
 | .strIter s p,.strIter t q=>decide (s=t)&&Nat.beq p q
 | .dead,.dead=>true
 | _,_=>false
theorem Qmh (a b:AObj) (h:Qqg a b=true):a=b:=by
 cases a<;>cases b<;>simp [Qqg] at h
 ·rw [Q4k _ _ h]
 ·rw [Qhe _ _ h]
 ·obtain ⟨rfl,rfl⟩:=h;rfl
 rfl
def Qlj:List AObj->List AObj->Bool
 | [],_=>true
 | o::r,o'::r'=>Qqg o o'&&Qlj r r'
 | _::_,[]=>false
theorem Qgx:∀ (m H:List AObj),Qlj m H=true->∃ rest,H=m++rest
 | [],H,_=>⟨H,rfl⟩
 | o::r,o'::r',h=>by
  simp only [Qlj,Lb] at h;obtain ⟨rest,e⟩:=Qgx r r' h.2;exact ⟨rest,by rw [Qmh _ _ h.1,e];rfl⟩
 | _::_,[],h=>by simp [Qlj] at h
def Qgu (g:AV->List Nat):Option AObj->List Nat
 | some (.cells cs)=>cs.flatMap g
 | some (.map es)=>es.flatMap fun q=>g q.2
 | _ => []
def Qdi:Nat->List AObj->AV->List Nat
 | 0,_,_ => []
 | n+1,H,v=>match v with
  | .ptr a _=>a::Qgu (Qdi n H) (H[a]?)
  | .slice _ a _ _=>a::Qgu (Qdi n H) (H[a]?)
  | .map a=>a::Qgu (Qdi n H) (H[a]?)
  | .func _ a b=>a.flatMap (Qdi n H)++b.flatMap (Qdi n H)
  | .iface _ v=>Qdi n H v
  | .agg cs=>cs.flatMap (Qdi n H)
  | .tuple cs=>cs.flatMap (Qdi n H)
  | _ => []
end
end Go.Av
