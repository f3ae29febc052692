/- Part of FrommqttCalls: the law returns true; no condition. -/
import Derived.Test.YtbcddiagcaddbaaGreatDoorAvLook
import Derived.Test.YtbcddiagcaddbaaGreatDoorAvMeth
import Derived.Test.YtbcddiagcaddbaaGreatDoorAvDraws
set_option linter.all false
namespace Go.Av
noncomputable section
section
variable {P:Program} {Gl:Nat->Option (List PV)}
def Qnm (R:List Nat) (H:List AObj):List AObj:=(List.range H.length).map fun i=>if R.contains i then H.getD i .dead else .dead
theorem Qie (R:List Nat) (H:List AObj):(Qnm R H).length=H.length:=by simp [Qnm]
theorem Qyt {R:List Nat} {H:List AObj} {a:Nat} {o:AObj} (h:(Qnm R H)[a]? = some o) (hl:o.live=true):a∈R∧H[a]? = some o:=by
 unfold Qnm at h;rw [Lo] at h
 cases hr:(List.range H.length)[a]? with
 | none=>simp [hr] at h
 | some i=>
  have hlt:=(Lb.1 hr).1;simp only [List.length_range] at hlt
  have hi:i=a:=by simpa [List.getElem?_range hlt] using hr.symm
  subst hi;simp only [hr,Mw,Lc] at h;split at h
  ·rename_i hc;subst h;refine ⟨by simpa using hc,?_⟩;rw [Lg,Ld hlt];rfl
  subst h;cases hl
theorem Qxr {R:List Nat} {H:List AObj} {a:Nat} {o:AObj} (hr:a∈R) (h:H[a]? = some o):(Qnm R H)[a]? = some o:=by
 have hlt:=(Lb.1 h).1;unfold Qnm;rw [Lo,Cr hlt];simp only [Mw,Mu.2 hr,Ak,Lc];rw [Lg,h];rfl
theorem Qjd {θ θ':Th} {S S':Nat->Prop} {w:World} {n:Nat} {o:AObj} {l:Loc} (hr:Q6d n o=true) (h:RelObj θ' S' w o l) (hθ:∀ a l,a<n->θ' a=some l->θ a=some l)
  (hS:∀ c,c<w.heap.size->S' c->S c):RelObj θ S w o l:=by
 have cv:∀ v x,refsLt n v=true->RelV θ' S' w v x->RelV θ S w v x:=fun v x h1 h2=>
  (Qfn v x h1 h2).mono (fun a l ha=>by
   simp only [cutθ] at ha;split at ha
   ·exact hθ a l (by assumption) ha
   cases ha) (fun c hc hs=>⟨hS c hc hs,rfl⟩)
 cases o with
 | cells cs=>
  obtain ⟨C,t,fz,h1,h2,h3,h4,h5⟩:=h;refine ⟨C,t,fz,h1,h2,h3,h4,fun j v hj=>⟨?_,(h5 j v hj).2⟩⟩;refine cv v _ ?_ (h5 j v hj).1
  have:∀ (l:List AV),refsLt.refsLts n l=true->∀ (j:Nat) v,l[j]? = some v->refsLt n v=true:=by
   intro l
   induction l with
   | nil=>intro _ j v hv;simp at hv
   | cons x l ih=>
    intro hl j v hv;simp only [refsLt.refsLts,La] at hl
    cases j with
    | zero=>simp at hv;subst hv;exact hl.1
    | succ j=>exact ih hl.2 j v (by simpa using hv)
  exact this cs hr j v hj
 | map es=>
  obtain ⟨E,clock,h1,h2,h4,h3⟩:=h;refine ⟨E,clock,h1,h2,h4,fun i k v hi=>⟨(h3 i k v hi).1.mono (fun c hc hs=>⟨hS c hc hs,rfl⟩),?_⟩⟩;refine cv v _ ?_ (h3 i k v hi).2;have:=Me.1 hr (k,v) (Nw.2 ⟨i,hi⟩);exact this
 | strIter s pos=>exact h
 | dead=>trivial
 | ext R a=>
  obtain ⟨⟨la,h1,h2⟩,h3⟩:=h;exact ⟨⟨la,hθ a la (Aa hr) h1,h2⟩,h3⟩
theorem Qtu {f:Nat} {args:List AV} {r:AV} {H:List AObj} (R:List Nat) (hargs:refsLt.refsLts H.length args=true) (hr:refsLt H.length r=true) (hobj:∀ a∈R,∀ o,H[a]? = some o->Q6d H.length o=true)
  (hc:Ue P Gl f args (Qnm R H) (fun v H'=>v=r∧∃ rest,H'=Qnm R H++rest)) (H2:List AObj) (hH2:∀ a∈R,∀ o,H[a]? = some o->H2[a]? = some o) :
  Ue P Gl f args H2 (fun v H'=>v=r∧H'=H2):=by
 refine ⟨hc.1,fun θ w cargs ha hH hG=>?_⟩
 let n:=H.length
 let blk:Nat->Prop:=fun c=>∃ a o l,a∈R∧H[a]? = some o∧o.live=true ∧ θ a=some l∧o.occ l c
 let bad0:Nat->Prop:=fun c=>c<w.heap.size∧¬ Z8 θ H2 c∧¬ blk c
 let θ0:Th:=⟨fun a=>if a<n then θ a else none,bad0⟩
 let H0:List AObj:=Qnm R H
 have t0:∀ a l,θ0 a=some l->a<n ∧ θ a=some l:=fun a l h=>by
  simp only [θ0] at h;split at h
  ·exact ⟨by assumption,h⟩
  cases h
 have live0:∀ (a:Nat) o,H0[a]? = some o->o.live=true->a∈R∧H[a]? = some o∧H2[a]? = some o∧a<n:=fun a o h hl=>by
  obtain ⟨h1,h2⟩:=Qyt h hl;exact ⟨h1,h2,hH2 a h1 o h2,(Lb.1 h2).1⟩
 have nl0:∀ c,NL θ H2 c->NL θ0 H0 c:=fun c h a o l ho hl hθ=>by
  obtain ⟨_,_,h3,_⟩:=live0 a o ho hl;exact h a o l h3 hl (t0 a l hθ).2
 have hfree:∀ c,Z8 θ H2 c->Z8 θ0 H0 c:=fun c hf=>⟨fun hb=>hb.2.1 hf,nl0 c hf.2⟩;have hmp:∀ x v,RelP (Z8 θ H2) w x v->RelP (Z8 θ0 H0) w x v:=fun x v h=>h.mono (fun c _ hf=>⟨hfree c hf,rfl⟩)
 have hH0:Hp θ0 H0 w:=by
  refine ⟨fun a o l ho hθ=>?_,fun a b oa ob la lb hoa hob hla hlb hθa hθb hne=>?_,fun a hlen=>?_,fun a o l ho hl hθ=>?_,fun c hc=>hc.1,fun b R e hb=>by
   obtain ⟨_,_,h3,h4⟩:=live0 b _ hb rfl;obtain ⟨l,hl⟩:=hH.tok b R e h3
   exact ⟨l,by simp only [θ0];rw [Af h4];exact hl⟩⟩
  ·cases hlv:o.live with
   | false=>cases o<;>first | (cases hlv;done) | trivial
   | true=>
    obtain ⟨h1,h2,h3,h4⟩:=live0 a o ho hlv;refine Qjd (hobj a h1 o h2) (hH.obj a o l h3 (t0 a l hθ).2) (fun b lb hb hθb=>?_) (fun c _ hf=>hfree c hf);simp only [θ0];rw [Af hb];exact hθb
  ·obtain ⟨_,_,h3,_⟩:=live0 a oa hoa hla;obtain ⟨_,_,h4,_⟩:=live0 b ob hob hlb;exact hH.dist a b oa ob la lb h3 h4 hla hlb (t0 a la hθa).2 (t0 b lb hθb).2 hne
  ·simp only [H0,Qie] at hlen;simp only [θ0];rw [Ae (by omega)]
  obtain ⟨h1,h2,_,_⟩:=live0 a o ho hl;exact fun c hc hb=>hb.2.2 ⟨a,o,l,h1,h2,hl,(t0 a l hθ).2,hc⟩
 have hG0:GlobOK Gl θ0 H0 w:=by
  intro g cs hg;obtain ⟨g1,g2,vs',g3,g4,g5⟩:=hG g cs hg;exact ⟨g1,hfree g g2,vs',g3,g4,fun j x hx=>⟨(g5 j x hx).1,hmp _ _ (g5 j x hx).2⟩⟩
 have ha0:Qbc θ0 (Z8 θ0 H0) w args cargs:=by
  refine ⟨ha.1,fun i v hv=>?_⟩;have h1:=Q7l (θ := θ) (S:=Z8 θ H2) (w:=w) (n:=n) args hargs (fun i=>cargs.getD i Zn) (fun i x hx=>ha.2 i x hx) i v hv;exact RelV.mono (θ:=cutθ θ n) (θ' := θ0) (fun _ _ e=>e) (fun c _ hf=>⟨hfree c hf,rfl⟩) h1
 refine (hc.2 θ0 w cargs ha0 hH0 hG0).mono ?_
 rintro e w' ⟨v,cr,H',θ',rfl,⟨rfl,rest,rfl⟩,q2,q3,q4⟩
 have hbe : θ'.bad=bad0:=q4.bad
 have old:∀ a,a<n->θ' a = θ a:=fun a h=>by
  rw [q4.old a (by simp only [Qie];exact h)];simp only [θ0];rw [Af h]
 have hS:∀ c,c<w'.heap.size->Z8 θ' (Qnm R H++rest) c->Z8 θ H2 c:=fun c _ hf=>by
  by_cases hlt:c<w.heap.size
  ·have h3:=hf.1;rw [hbe] at h3;refine Mj fun hn=>h3 ⟨hlt,hn,?_⟩
   rintro ⟨a,o,l,h1,h2,h4,h5,h6⟩
   have hal:=(Lb.1 h2).1;have hm:=Qxr h1 h2;refine hf.2 a o l ?_ h4 (by rw [old a hal];exact h5) h6;rw [Lr (by rw [Qie];exact hal)];exact hm
  refine ⟨fun hb=>hlt (hH.badlt c hb),fun a o l ho hl hθ e=>?_⟩;have:=(hH.obj a o l ho hθ).lt hl c e;omega
 have hsame:∀ c,c<w.heap.size->NL θ0 H0 c->w'.heap[c]? = w.heap[c]? := fun c hc hn=>(q4.nl c hc hn).2
 have hHp:Hp θ H2 w':=by
  refine ⟨fun b o l hb hθ=>?_,hH.dist,hH.fresh,hH.good,fun c hc=>Nj (hH.badlt c hc) q4.size,hH.tok⟩
  cases hlv:o.live with
  | false=>cases o<;>first | (cases hlv;done) | trivial
  | true=>
   by_cases hin:b∈R∧∃ o',H[b]? = some o'
   ·obtain ⟨h1,o',h2⟩:=hin;have h3:=hH2 b h1 o' h2;rw [hb] at h3;cases h3;have hbl:=(Lb.1 h2).1
    have hm:(Qnm R H++rest)[b]? = some o:=by
     rw [Lr (by rw [Qie];exact hbl)];exact Qxr h1 h2
    exact Qjd (hobj b h1 o h2) (q3.obj b o l hm (by rw [old b hbl];exact hθ)) (fun a la ha hθa=>by rw [← old a ha];exact hθa) hS
   have hr0:=hH.obj b o l hb hθ;refine hr0.mono (fun _ _ e=>e) (fun c hc hf=>⟨hf,hsame c hc (nl0 c hf.2)⟩) (fun hbl c hc=>hsame _ (hr0.lt hbl c hc) (fun a oa la hoa hla hθa e=>?_)) q4.size;obtain ⟨h1,h2,h3,_⟩:=live0 a oa hoa hla
   by_cases hab:a=b
   ·subst hab;exact hin ⟨h1,oa,h2⟩
   exact hH.dist a b oa o la l h3 hb hla hlv (t0 a la hθa).2 hθ hab c e hc
 refine ⟨v,cr,H2,θ,rfl,⟨rfl,rfl⟩,?_,hHp,⟨⟨fun _ _ e=>e,rfl,fun c hc hn=>⟨hn,hsame c hc (nl0 c hn)⟩,q4.size,q4.os,q4.tape,q4.output⟩,Lj _,fun _ _=>rfl⟩⟩;have h2:=Qfn (θ := θ') (S:=Z8 θ' (Qnm R H++rest)) (w:=w') v cr hr q2;refine h2.mono (θ' := θ) (fun a l h=>?_) (fun c hc hf=>⟨hS c hc hf,rfl⟩);simp only [cutθ] at h;split at h
 ·rename_i hlt;rw [old a hlt] at h;exact h
 cases h
theorem Qqy {f:Nat} {args:List AV} {H:List AObj} {r:AV} {k:AV->List AObj->List Nat->List Nat->Prop} (R:List Nat) (hargs:refsLt.refsLts H.length args=true) (hr:refsLt H.length r=true)
  (hobj:∀ a∈R,∀ o,H[a]? = some o->Q6d H.length o=true) (hc:Ue P Gl f args (Qnm R H) (fun v H'=>v=r∧∃ rest,H'=Qnm R H++rest)) (hk:k r H R []):Q06 P Gl f args H k:=
 .inl ⟨R,[],r,fun s h=>(by cases h),fun H2 h2=>Qh4 (Qtu R hargs hr hobj hc H2 h2) (fun _ _ ⟨e1,e2⟩=>⟨e1,e2⟩),hk⟩
end
end
end Go.Av
