/- Part of the proof of CrossKeeps: for every input the law returns true; no condition. -/
import Derived.Test.YtaokaobiihpkbaaGreatDoorAvLook
import Derived.Test.YtaokaobiihpkbaaGreatDoorAvMeth
import Derived.Test.YtaokaobiihpkbaaGreatDoorAvDraws
import Derived.Test.YtaokaobiihpkbaaGreatDoorAvBase
set_option linter.all false
namespace Go.Av
noncomputable section
section
variable {P:Program} {Gl:Nat→Option (List PV)}
def Qi1 (R:List Nat) (H:List AObj):List AObj:=(List.range H.length).map fun i=>if R.contains i then H.getD i .dead else .dead
theorem Qcd (R:List Nat) (H:List AObj):(Qi1 R H).length=H.length:=by simp [Qi1]
theorem Qst {R:List Nat} {H:List AObj} {a:Nat} {o:AObj} (h:(Qi1 R H)[a]? = some o) (hl:o.live=true):a∈R∧H[a]? = some o:=by
 unfold Qi1 at h;rw [Ln] at h
 cases hr:(List.range H.length)[a]? with
 | none=>simp [hr] at h
 | some i=>
  have hlt:=(La.1 hr).1;simp only [List.length_range] at hlt
  have hi:i=a:=by simpa [List.getElem?_range hlt] using hr.symm
  subst hi;simp only [hr,Mn,Ld] at h;split at h
  ·rename_i hc;subst h;refine ⟨by simpa using hc,?_⟩;rw [Le,Lc hlt];rfl
  subst h;cases hl
theorem Qse {R:List Nat} {H:List AObj} {a:Nat} {o:AObj} (hr:a∈R) (h:H[a]? = some o):(Qi1 R H)[a]? = some o:=by
 have hlt:=(La.1 h).1;unfold Qi1;rw [Ln,Cr hlt];simp only [Mn,Ni.2 hr,Ak,Ld];rw [Le,h];rfl
theorem Qdi {θ θ':Th} {S S':Nat→Prop} {w:World} {n:Nat} {o:AObj} {l:Loc} (hr:Jy n o=true) (h:RelObj θ' S' w o l) (hθ:∀ a l,a<n → θ' a=some l → θ a=some l)
  (hS:∀ c,c<w.heap.size→S' c→S c):RelObj θ S w o l:=by
 have cv:∀ v x,refsLt n v=true→RelV θ' S' w v x→RelV θ S w v x:=fun v x h1 h2=>
  (Qa2 v x h1 h2).mono (fun a l ha=>by
   simp only [cutθ] at ha;split at ha
   ·exact hθ a l (by assumption) ha
   cases ha) (fun c hc hs=>⟨hS c hc hs,rfl⟩)
 cases o with
 | cells cs=>
  obtain ⟨C,t,fz,h1,h2,h3,h4,h5⟩:=h;refine ⟨C,t,fz,h1,h2,h3,h4,fun j v hj=>⟨?_,(h5 j v hj).2⟩⟩;refine cv v _ ?_ (h5 j v hj).1
  have:∀ (l:List AV),refsLt.refsLts n l=true→∀ (j:Nat) v,l[j]? = some v→refsLt n v=true:=by
   intro l
   induction l with
   | nil=>intro _ j v hv;simp at hv
   | cons x l ih=>
    intro hl j v hv;simp only [refsLt.refsLts,Lb] at hl
    cases j with
    | zero=>simp at hv;subst hv;exact hl.1
    | succ j=>exact ih hl.2 j v (by simpa using hv)
  exact this cs hr j v hj
 | map es=>
  obtain ⟨E,clock,h1,h2,h3⟩:=h;refine ⟨E,clock,h1,h2,fun i k v hi=>⟨(h3 i k v hi).1.mono (fun c hc hs=>⟨hS c hc hs,rfl⟩),?_⟩⟩;refine cv v _ ?_ (h3 i k v hi).2;have:=Lp.1 hr (k,v) (Ml.2 ⟨i,hi⟩);exact this
 | strIter s pos=>exact h
 | dead=>trivial
 | ext R a=>
  obtain ⟨⟨la,h1,h2⟩,h3⟩:=h;exact ⟨⟨la,hθ a la (Aa hr) h1,h2⟩,h3⟩
theorem Qoy {f:Nat} {args:List AV} {r:AV} {H:List AObj} (R:List Nat) (hargs:refsLt.refsLts H.length args=true) (hr:refsLt H.length r=true) (hobj:∀ a∈R,∀ o,H[a]? = some o→Jy H.length o=true)
  (hc:Qw P Gl f args (Qi1 R H) (fun v H'=>v=r∧∃ rest,H'=Qi1 R H++rest)) (H2:List AObj) (hH2:∀ a∈R,∀ o,H[a]? = some o→H2[a]? = some o) :
  Qw P Gl f args H2 (fun v H'=>v=r∧H'=H2):=by
 refine ⟨hc.1,fun θ w cargs ha hH hG=>?_⟩
 let n:=H.length
 let blk:Nat→Prop:=fun c=>∃ a o l,a∈R∧H[a]? = some o∧o.live=true ∧ θ a=some l∧o.occ l c
 let bad0:Nat→Prop:=fun c=>c<w.heap.size∧¬ Qv θ H2 c∧¬ blk c
 let θ0:Th:=⟨fun a=>if a<n then θ a else none,bad0⟩
 let H0:List AObj:=Qi1 R H
 have t0:∀ a l,θ0 a=some l→a<n ∧ θ a=some l:=fun a l h=>by
  simp only [θ0] at h;split at h
  ·exact ⟨by assumption,h⟩
  cases h
 have live0:∀ (a:Nat) o,H0[a]? = some o→o.live=true→a∈R∧H[a]? = some o∧H2[a]? = some o∧a<n:=fun a o h hl=>by
  obtain ⟨h1,h2⟩:=Qst h hl;exact ⟨h1,h2,hH2 a h1 o h2,(La.1 h2).1⟩
 have nl0:∀ c,NL θ H2 c→NL θ0 H0 c:=fun c h a o l ho hl hθ=>by
  obtain ⟨_,_,h3,_⟩:=live0 a o ho hl;exact h a o l h3 hl (t0 a l hθ).2
 have hfree:∀ c,Qv θ H2 c→Qv θ0 H0 c:=fun c hf=>⟨fun hb=>hb.2.1 hf,nl0 c hf.2⟩;have hmp:∀ x v,RelP (Qv θ H2) w x v→RelP (Qv θ0 H0) w x v:=fun x v h=>h.mono (fun c _ hf=>⟨hfree c hf,rfl⟩)
 have hH0:Hp θ0 H0 w:=by
  refine ⟨fun a o l ho hθ=>?_,fun a b oa ob la lb hoa hob hla hlb hθa hθb hne=>?_,fun a hlen=>?_,fun a o l ho hl hθ=>?_,fun c hc=>hc.1,fun b R e hb=>by
   obtain ⟨_,_,h3,h4⟩:=live0 b _ hb rfl;obtain ⟨l,hl⟩:=hH.tok b R e h3
   exact ⟨l,by simp only [θ0];rw [Af h4];exact hl⟩⟩
  ·cases hlv:o.live with
   | false=>cases o<;>first | (cases hlv;done) | trivial
   | true=>
    obtain ⟨h1,h2,h3,h4⟩:=live0 a o ho hlv;refine Qdi (hobj a h1 o h2) (hH.obj a o l h3 (t0 a l hθ).2) (fun b lb hb hθb=>?_) (fun c _ hf=>hfree c hf);simp only [θ0];rw [Af hb];exact hθb
  ·obtain ⟨_,_,h3,_⟩:=live0 a oa hoa hla;obtain ⟨_,_,h4,_⟩:=live0 b ob hob hlb;exact hH.dist a b oa ob la lb h3 h4 hla hlb (t0 a la hθa).2 (t0 b lb hθb).2 hne
  ·simp only [H0,Qcd] at hlen;simp only [θ0];rw [Ae (by omega)]
  obtain ⟨h1,h2,_,_⟩:=live0 a o ho hl;exact fun c hc hb=>hb.2.2 ⟨a,o,l,h1,h2,hl,(t0 a l hθ).2,hc⟩
 have hG0:GlobOK Gl θ0 H0 w:=by
  intro g cs hg;obtain ⟨g1,g2,vs',g3,g4,g5⟩:=hG g cs hg;exact ⟨g1,hfree g g2,vs',g3,g4,fun j x hx=>⟨(g5 j x hx).1,hmp _ _ (g5 j x hx).2⟩⟩
 have ha0:Q5i θ0 (Qv θ0 H0) w args cargs:=by
  refine ⟨ha.1,fun i v hv=>?_⟩;have h1:=Q3r (θ := θ) (S:=Qv θ H2) (w:=w) (n:=n) args hargs (fun i=>cargs.getD i Z3) (fun i x hx=>ha.2 i x hx) i v hv;exact Ap (θ:=cutθ θ n) (θ' := θ0) (fun _ _ e=>e) (fun c _ hf=>⟨hfree c hf,rfl⟩) h1
 refine (hc.2 θ0 w cargs ha0 hH0 hG0).mono ?_
 rintro e w' ⟨v,cr,H',θ',rfl,⟨rfl,rest,rfl⟩,q2,q3,q4⟩
 have hbe : θ'.bad=bad0:=q4.bad
 have old:∀ a,a<n → θ' a = θ a:=fun a h=>by
  rw [q4.old a (by simp only [Qcd];exact h)];simp only [θ0];rw [Af h]
 have hS:∀ c,c<w'.heap.size→Qv θ' (Qi1 R H++rest) c→Qv θ H2 c:=fun c _ hf=>by
  by_cases hlt:c<w.heap.size
  ·have h3:=hf.1;rw [hbe] at h3;refine Lr fun hn=>h3 ⟨hlt,hn,?_⟩
   rintro ⟨a,o,l,h1,h2,h4,h5,h6⟩
   have hal:=(La.1 h2).1;have hm:=Qse h1 h2;refine hf.2 a o l ?_ h4 (by rw [old a hal];exact h5) h6;rw [Lk (by rw [Qcd];exact hal)];exact hm
  refine ⟨fun hb=>hlt (hH.badlt c hb),fun a o l ho hl hθ e=>?_⟩;have:=(hH.obj a o l ho hθ).lt hl c e;omega
 have hsame:∀ c,c<w.heap.size→NL θ0 H0 c→w'.heap[c]? = w.heap[c]? := fun c hc hn=>(q4.nl c hc hn).2
 have hHp:Hp θ H2 w':=by
  refine ⟨fun b o l hb hθ=>?_,hH.dist,hH.fresh,hH.good,fun c hc=>Mu (hH.badlt c hc) q4.size,hH.tok⟩
  cases hlv:o.live with
  | false=>cases o<;>first | (cases hlv;done) | trivial
  | true=>
   by_cases hin:b∈R∧∃ o',H[b]? = some o'
   ·obtain ⟨h1,o',h2⟩:=hin;have h3:=hH2 b h1 o' h2;rw [hb] at h3;cases h3;have hbl:=(La.1 h2).1
    have hm:(Qi1 R H++rest)[b]? = some o:=by
     rw [Lk (by rw [Qcd];exact hbl)];exact Qse h1 h2
    exact Qdi (hobj b h1 o h2) (q3.obj b o l hm (by rw [old b hbl];exact hθ)) (fun a la ha hθa=>by rw [← old a ha];exact hθa) hS
   have hr0:=hH.obj b o l hb hθ;refine hr0.mono (fun _ _ e=>e) (fun c hc hf=>⟨hf,hsame c hc (nl0 c hf.2)⟩) (fun hbl c hc=>hsame _ (hr0.lt hbl c hc) (fun a oa la hoa hla hθa e=>?_)) q4.size;obtain ⟨h1,h2,h3,_⟩:=live0 a oa hoa hla
   by_cases hab:a=b
   ·subst hab;exact hin ⟨h1,oa,h2⟩
   exact hH.dist a b oa o la l h3 hb hla hlv (t0 a la hθa).2 hθ hab c e hc
 refine ⟨v,cr,H2,θ,rfl,⟨rfl,rfl⟩,?_,hHp,⟨⟨fun _ _ e=>e,rfl,fun c hc hn=>⟨hn,hsame c hc (nl0 c hn)⟩,q4.size,q4.os,q4.tape,q4.output⟩,Li _,fun _ _=>rfl⟩⟩;have h2:=Qa2 (θ := θ') (S:=Qv θ' (Qi1 R H++rest)) (w:=w') v cr hr q2;refine h2.mono (θ' := θ) (fun a l h=>?_) (fun c hc hf=>⟨hS c hc hf,rfl⟩);simp only [cutθ] at h;split at h
 ·rename_i hlt;rw [old a hlt] at h;exact h
 cases h
theorem Q94 {f:Nat} {args:List AV} {H:List AObj} {r:AV} {k:AV→List AObj→List Nat→List Nat→Prop} (R:List Nat) (hargs:refsLt.refsLts H.length args=true) (hr:refsLt H.length r=true)
  (hobj:∀ a∈R,∀ o,H[a]? = some o→Jy H.length o=true) (hc:Qw P Gl f args (Qi1 R H) (fun v H'=>v=r∧∃ rest,H'=Qi1 R H++rest)) (hk:k r H R []):Xu P Gl f args H k:=
 .inl ⟨R,[],r,fun s h=>(by cases h),fun H2 h2=>G7 (Qoy R hargs hr hobj hc H2 h2) (fun _ _ ⟨e1,e2⟩=>⟨e1,e2⟩),hk⟩
end
end
end Go.Av
namespace Go.Av
noncomputable section
mutual
def Qga:PV→PV→Bool
 | .bool a,.bool b=>a == b
 | .int k n,.int k' n'=>decide (k=k')&&decide (n=n')
 | .str s,.str t=>decide (s=t)
 | .nilPtr,.nilPtr=>true
 | .nilSlice,.nilSlice=>true
 | .slice0,.slice0=>true
 | .slice e r,.slice e' r'=>Nat.beq e e'&&Qgj r r'
 | .nilMap,.nilMap=>true
 | .func (.func f) a b,.func (.func g) c d=>Nat.beq f g&&(Q8x a c&&Q8x b d)
 | .nilFunc,.nilFunc=>true
 | .nilIface,.nilIface=>true
 | .agg a,.agg b=>Q8x a b
 | .tuple a,.tuple b=>Q8x a b
 | _,_=>false
def Q8x:List PV→List PV→Bool
 | [],[]=>true
 | a::r,b::s=>Qga a b&&Q8x r s
 | _,_=>false
def Qgj:List (List PV)→List (List PV)→Bool
 | [],[]=>true
 | a::r,b::s=>Q8x a b&&Qgj r s
 | _,_=>false
end
mutual
theorem Qkq:∀ (a b:PV),Qga a b=true→a=b
 | .bool a,b,h=>by cases b<;>simp [Qga] at h;subst h;rfl
 | .int k n,b,h=>by cases b<;>simp [Qga] at h;obtain ⟨rfl,rfl⟩:=h;rfl
 | .str s,b,h=>by cases b<;>simp [Qga] at h;subst h;rfl
 | .nilPtr,b,h=>by cases b<;>simp [Qga] at h;rfl
 | .nilSlice,b,h=>by cases b<;>simp [Qga] at h;rfl
 | .slice0,b,h=>by cases b<;>simp [Qga] at h;rfl
 | .slice e r,b,h=>by
  cases b<;>simp [Qga] at h;obtain ⟨rfl,h2⟩:=h;rw [Qir r _ h2]
 | .nilMap,b,h=>by cases b<;>simp [Qga] at h;rfl
 | .pmap es,b,h=>by cases b<;>simp [Qga] at h
 | .func fn a c,b,h=>by
  cases b<;>cases fn<;>try (simp [Qga] at h;done)
  rename_i fn' a' c' f;cases fn'<;>simp [Qga] at h;obtain ⟨rfl,h2,h3⟩:=h;rw [Q3h a _ h2,Q3h c _ h3]
 | .nilFunc,b,h=>by cases b<;>simp [Qga] at h;rfl
 | .iface t v,b,h=>by cases b<;>simp [Qga] at h
 | .nilIface,b,h=>by cases b<;>simp [Qga] at h;rfl
 | .agg a,b,h=>by
  cases b<;>simp [Qga] at h;rw [Q3h a _ h]
 | .tuple a,b,h=>by
  cases b<;>simp [Qga] at h;rw [Q3h a _ h]
theorem Q3h:∀ (a b:List PV),Q8x a b=true→a=b
 | [],b,h=>by cases b<;>simp [Q8x] at h;rfl
 | x::r,b,h=>by
  cases b with
  | nil=>simp [Q8x] at h
  | cons y s=>
   simp only [Q8x,Lb] at h;rw [Qkq x y h.1,Q3h r s h.2]
theorem Qir:∀ (a b:List (List PV)),Qgj a b=true→a=b
 | [],b,h=>by cases b<;>simp [Qgj] at h;rfl
 | x::r,b,h=>by
  cases b with
  | nil=>simp [Qgj] at h
  | cons y s=>
   simp only [Qgj,Lb] at h;rw [Q3h x y h.1,Qir r s h.2]
end
mutual
def Qkm:AV→AV→Bool
 | .p a,.p b=>Qga a b
 | .ptr a o,.ptr b p=>Nat.beq a b&&Nat.beq o p
 | .gptr a o,.gptr b p=>Nat.beq a b&&Nat.beq o p
 | .rptr a,.rptr b=>Q8x a b
 | .slice e a o l,.slice e' a' o' l'=>Nat.beq e e'&&(Nat.beq a a'&&(Nat.beq o o'&&Nat.beq l l'))
 | .map a,.map b=>Nat.beq a b
 | .func (.func f) a b,.func (.func g) c d=>Nat.beq f g&&(Qfd a c&&Qfd b d)
 | .iface t v,.iface t' v'=>Nat.beq t t'&&Qkm v v'
 | .agg a,.agg b=>Qfd a b
 | .tuple a,.tuple b=>Qfd a b
 | .any,.any=>true
 | _,_=>false
def Qfd:List AV→List AV→Bool
 | [],[]=>true
 | a::r,b::s=>Qkm a b&&Qfd r s
 | _,_=>false
end
mutual
theorem Ql0:∀ (a b:AV),Qkm a b=true→a=b
 | .p a,b,h=>by cases b<;>simp [Qkm] at h;rw [Qkq _ _ h]
 | .ptr a o,b,h=>by cases b<;>simp [Qkm] at h;obtain ⟨rfl,rfl⟩:=h;rfl
 | .gptr a o,b,h=>by cases b<;>simp [Qkm] at h;obtain ⟨rfl,rfl⟩:=h;rfl
 | .rptr a,b,h=>by cases b<;>simp [Qkm] at h;rw [Q3h _ _ h]
 | .slice e a o l,b,h=>by cases b<;>simp [Qkm] at h;obtain ⟨rfl,rfl,rfl,rfl⟩:=h;rfl
 | .map a,b,h=>by cases b<;>simp [Qkm] at h;subst h;rfl
 | .func fn a c,b,h=>by
  cases b<;>cases fn<;>try (simp [Qkm] at h;done)
  rename_i fn' a' c' f;cases fn'<;>simp [Qkm] at h;obtain ⟨rfl,h2,h3⟩:=h;rw [Q82 a _ h2,Q82 c _ h3]
 | .iface t v,b,h=>by
  cases b<;>simp [Qkm] at h;obtain ⟨h1,h2⟩:=h;rw [Ql0 v _ h2,h1]
 | .agg a,b,h=>by
  cases b<;>simp [Qkm] at h;rw [Q82 a _ h]
 | .tuple a,b,h=>by
  cases b<;>simp [Qkm] at h;rw [Q82 a _ h]
 | .any,b,h=>by cases b<;>simp [Qkm] at h;rfl
theorem Q82:∀ (a b:List AV),Qfd a b=true→a=b
 | [],b,h=>by cases b<;>simp [Qfd] at h;rfl
 | x::r,b,h=>by
  cases b with
  | nil=>simp [Qfd] at h
  | cons y s=>
   simp only [Qfd,Lb] at h;rw [Ql0 x y h.1,Q82 r s h.2]
end
def Qox:List (PV×AV)→List (PV×AV)→Bool
 | [],[]=>true
 | (k,v)::r,(k',v')::s=>Qga k k'&&(Qkm v v'&&Qox r s)
 | _,_=>false
theorem Qmp:∀ (a b:List (PV×AV)),Qox a b=true→a=b
 | [],[],_=>rfl
 | (k,v)::r,(k',v')::s,h=>by
  simp only [Qox,Lb] at h;rw [Qkq k k' h.1,Ql0 v v' h.2.1,Qmp r s h.2.2]
 | [],_::_,h=>by simp [Qox] at h
 | _::_,[],h=>by simp [Qox] at h
def Qye:AObj→AObj→Bool
 | .map a,.map b=>Qox a b
 | .cells a,.cells b=>Qfd a b
 | .strIter s p,.strIter t q=>decide (s=t)&&Nat.beq p q
 | .dead,.dead=>true
 | _,_=>false
theorem Qt1 (a b:AObj) (h:Qye a b=true):a=b:=by
 cases a<;>cases b<;>simp [Qye] at h
 ·rw [Q82 _ _ h]
 ·rw [Qmp _ _ h]
 ·obtain ⟨rfl,rfl⟩:=h;rfl
 rfl
def Qrw:List AObj→List AObj→Bool
 | [],_=>true
 | o::r,o'::r'=>Qye o o'&&Qrw r r'
 | _::_,[]=>false
theorem Qnz:∀ (m H:List AObj),Qrw m H=true→∃ rest,H=m++rest
 | [],H,_=>⟨H,rfl⟩
 | o::r,o'::r',h=>by
  simp only [Qrw,Lb] at h;obtain ⟨rest,e⟩:=Qnz r r' h.2;exact ⟨rest,by rw [Qt1 _ _ h.1,e];rfl⟩
 | _::_,[],h=>by simp [Qrw] at h
def Qli (g:AV→List Nat):Option AObj→List Nat
 | some (.cells cs)=>cs.flatMap g
 | some (.map es)=>es.flatMap fun q=>g q.2
 | _ => []
def Qhn:Nat→List AObj→AV→List Nat
 | 0,_,_ => []
 | n+1,H,v=>match v with
  | .ptr a _=>a::Qli (Qhn n H) (H[a]?)
  | .slice _ a _ _=>a::Qli (Qhn n H) (H[a]?)
  | .map a=>a::Qli (Qhn n H) (H[a]?)
  | .func _ a b=>a.flatMap (Qhn n H)++b.flatMap (Qhn n H)
  | .iface _ v=>Qhn n H v
  | .agg cs=>cs.flatMap (Qhn n H)
  | .tuple cs=>cs.flatMap (Qhn n H)
  | _ => []
end
end Go.Av
