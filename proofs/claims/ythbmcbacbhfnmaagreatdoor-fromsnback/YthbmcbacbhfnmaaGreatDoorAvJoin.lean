/- Part of FromsnBack: the law returns true; no condition. -/
import Derived.Test.YthbmcbacbhfnmaaGreatDoorAvFunc
set_option linter.all false
namespace Go.Av
noncomputable section
set_option maxHeartbeats 4000000
section
variable {P:Program} {Gl:Nat->Option (List PV)}
mutual
def Q6m (ρ:Nat->Nat):AV->AV
 | .ptr a off => .ptr (ρ a) off
 | .slice e a off len => .slice e (ρ a) off len
 | .map a => .map (ρ a)
 | .agg cs => .agg (Qel ρ cs)
 | .tuple cs => .tuple (Qel ρ cs)
 | .func fn a b => .func fn (Qel ρ a) (Qel ρ b)
 | .iface t v => .iface t (Q6m ρ v)
 | .p x => .p x
 | .gptr g off => .gptr g off
 | .rptr cs => .rptr cs
 | .any => .any
def Qel (ρ:Nat->Nat):List AV->List AV
 | [] => []
 | v::vs=>Q6m ρ v::Qel ρ vs
end
theorem Q0b (ρ:Nat->Nat):∀ vs,Qel ρ vs=vs.map (Q6m ρ)
 | []=>rfl
 | v::vs=>by simp [Qel,Q0b ρ vs]
def Qcd (ρ:Nat->Nat):AObj->AObj
 | .cells cs => .cells (Qel ρ cs)
 | .map es => .map (es.map fun p=>(p.1,Q6m ρ p.2))
 | .strIter s pos => .strIter s pos
 | .dead => .dead
 | .ext R a => .ext R (ρ a)
inductive RenV (ρ:Nat->Nat) (K:Nat->Prop) (H:List AObj):AV->AV->Prop
 | same (u:AV):RenV ρ K H (Q6m ρ u) u
 | any (v:AV):RenV ρ K H v .any
 | nil (e a off:Nat):RenV ρ K H (.p .nilSlice) (.slice e a off 0)
 | nil0 (e a off:Nat):RenV ρ K H (.p .slice0) (.slice e a off 0)
 | frz (v:AV) (x:PV) (h:Frz K H v x):RenV ρ K H v (.p x)
 | agg (cs ds:List AV) (hn:cs.length=ds.length) (h:∀ (i:Nat) v u,cs[i]? = some v->ds[i]? = some u->RenV ρ K H v u):RenV ρ K H (.agg cs) (.agg ds)
 | tuple (cs ds:List AV) (hn:cs.length=ds.length) (h:∀ (i:Nat) v u,cs[i]? = some v->ds[i]? = some u->RenV ρ K H v u):RenV ρ K H (.tuple cs) (.tuple ds)
 | pagg (ps:List PV) (ds:List AV) (hn:ps.length=ds.length) (h:∀ (i:Nat) v u,ps[i]? = some v->ds[i]? = some u->RenV ρ K H (.p v) u):RenV ρ K H (.p (.agg ps)) (.agg ds)
def RenL (ρ:Nat->Nat) (K:Nat->Prop) (H:List AObj) (vs us:List AV):Prop:=vs.length=us.length∧∀ (i:Nat) v u,vs[i]? = some v->us[i]? = some u->RenV ρ K H v u
def RenO (ρ:Nat->Nat) (K:Nat->Prop) (H:List AObj) (o o':AObj):Prop:=o=Qcd ρ o'∨∃ cs cs' more,o = .cells (cs++more)∧o' = .cells cs'∧RenL ρ K H cs cs'
def Zbi (ρ:Nat->Nat) (K:Nat->Prop) (H:List AObj) (i:Nat) (o':AObj):Prop:=(∃ o,H[ρ i]? = some o∧RenO ρ K H o o')∨(o' = .cells []∧H.length ≤ ρ i)
def Qei (ρ:Nat->Nat) (K:Nat->Prop) (H:List AObj):Nat->List AObj->Prop
 | _,[]=>True
 | i,.dead::r=>Qei ρ K H (i+1) r
 | i,o::r=>Zbi ρ K H i o∧Qei ρ K H (i+1) r
def Z2h (ρ:Nat->Nat) (n:Nat) (H':List AObj):Bool:=
 (List.range H'.length).all fun i=>(!(decide (i<n)) || ρ i == i)&&(List.range H'.length).all fun j=>i == j || !((H'[i]?).any AObj.live) || !((H'[j]?).any AObj.live) || ρ i != ρ j
def kdB (ρ:Nat->Nat) (H':List AObj) (a:Nat):Bool:=(List.range H'.length).all fun i => !((H'[i]?).any AObj.live) || ρ i != a
@[reducible] def KD (ρ:Nat->Nat) (H':List AObj) (a:Nat):Prop:=kdB ρ H' a=true
structure Ren (ρ:Nat->Nat) (n:Nat) (tm:List AV) (H:List AObj) (tm':List AV) (H':List AObj):Prop where
 tm:RenL ρ (KD ρ H') H tm tm'
 hp:Qei ρ (KD ρ H') H 0 H'
 inj:Z2h ρ n H'=true
 refs:refsLt.refsLts H'.length tm'=true
 robj:(H'.all (Q1s H'.length))=true
section
variable {ρ:Nat->Nat} {K:Nat->Prop} {H:List AObj}
def rN:RenL ρ K H [] []:=⟨rfl,fun i v u h=>by simp⟩
def rC {v u:AV} {vs us:List AV} (h:RenV ρ K H v u) (t:RenL ρ K H vs us):RenL ρ K H (v::vs) (u::us):=
 ⟨by simp [t.1],fun i v' u' h1 h2=>by
  cases i with
  | zero=>simp_all
  | succ i=>exact t.2 i v' u' (by simp_all) (by simp_all)⟩
def rA {v:AV} {vs us:List AV} (h:RenL ρ K H vs us):RenL ρ K H (v::vs) (.any::us):=rC (.any v) h
def rE {v u:AV} {vs us:List AV} (e:v=Q6m ρ u) (h:RenL ρ K H vs us):RenL ρ K H (v::vs) (u::us):=rC (e ▸ .same u) h
def rS {e a off:Nat} {vs us:List AV} (h:RenL ρ K H vs us):RenL ρ K H (.p .nilSlice::vs) (.slice e a off 0::us):=rC (.nil e a off) h
def rL {e a i off n m:Nat} {vs us:List AV} (hn:n=m) (ha:a = ρ i) (h:RenL ρ K H vs us):RenL ρ K H (.slice e a off n::vs) (.slice e i off m::us):=rE (by subst hn;subst ha;rfl) h
def rF {v:AV} {x:PV} {vs us:List AV} (f:Frz K H v x) (h:RenL ρ K H vs us):RenL ρ K H (v::vs) (.p x::us):=rC (.frz v x f) h
def rG {cs ds vs us:List AV} (g:RenL ρ K H cs ds) (h:RenL ρ K H vs us):RenL ρ K H (.agg cs::vs) (.agg ds::us):=rC (.agg cs ds g.1 g.2) h
def rT {cs ds vs us:List AV} (g:RenL ρ K H cs ds) (h:RenL ρ K H vs us):RenL ρ K H (.tuple cs::vs) (.tuple ds::us):=rC (.tuple cs ds g.1 g.2) h
def rP {ps:List PV} {ds vs us:List AV} (g:RenL ρ K H (ps.map .p) ds) (h:RenL ρ K H vs us):RenL ρ K H (.p (.agg ps)::vs) (.agg ds::us):=
 rC (.pagg ps ds (by simpa using g.1) (fun i v u h1 h2=>g.2 i (.p v) u (by simp_all) h2)) h
def hN {i:Nat}:Qei ρ K H i []:=trivial
def hD {i:Nat} {r:List AObj} (h:Qei ρ K H (i+1) r):Qei ρ K H i (.dead::r):=h
def hX {i:Nat} {o:AObj} {r:List AObj} (e:Zbi ρ K H i o) (h:Qei ρ K H (i+1) r):Qei ρ K H i (o::r):=iy
def hE {i:Nat} {o:AObj} {r:List AObj} (e:H[ρ i]? = some (Qcd ρ o)) (h:Qei ρ K H (i+1) r):Qei ρ K H i (o::r):=hX (.inl ⟨_,e,.inl rfl⟩) h
def hV {i:Nat} {r:List AObj} (e:H.length ≤ ρ i) (h:Qei ρ K H (i+1) r):Qei ρ K H i (.cells []::r):=hX (.inr ⟨rfl,e⟩) h
def hC {i:Nat} {cs cs':List AV} {r:List AObj} (e:H[ρ i]? = some (.cells cs)) (g:RenL ρ K H cs cs') (h:Qei ρ K H (i+1) r):Qei ρ K H i (.cells cs'::r):=hX (.inl ⟨_,e,.inr ⟨_,_,[],by simp,rfl,g⟩⟩) h
end

def rθ (θ:Th) (ρ:Nat->Nat) (n:Nat):Th:=⟨fun a=>if a<n then θ (ρ a) else none,θ.bad⟩
mutual
def Qmb {θ:Th} {ρ:Nat->Nat} {S:Nat->Prop} {w:World} {n:Nat}:∀ (v:AV) (cv:Value),refsLt n v=true->RelV θ S w (Q6m ρ v) cv->RelV (rθ θ ρ n) S w v cv
 | .p x,_,_,h=>by rw [Q6m] at h;cases h with | p _ _ h=>exact .p _ _ h
 | .ptr a off,_,hr,h=>by
  rw [Q6m] at h
  cases h with
  | ptr _ _ l hl=>exact .ptr a off l iG
 | .gptr g off,_,_,h=>by rw [Q6m] at h;cases h;exact .gptr _ _
 | .rptr cs,_,_,h=>by rw [Q6m] at h;exact eY
 | .slice e a off len,_,hr,h=>by
  rw [Q6m] at h
  cases h with
  | slice _ _ _ _ cap l addr hl he h1 h2 h3=>exact .slice _ _ _ _ cap l addr iG he h1 h2 h3
  | sliceN _ _ _ o=>exact .sliceN _ _ _ o
 | .map a,_,hr,h=>by
  rw [Q6m] at h
  cases h with
  | map _ l hl=>exact .map a l iG
 | .func fn a b,_,hr,h=>by
  simp only [refsLt,Le] at hr;rw [Q6m] at h
  cases h with
  | func _ _ _ A B ha hb hav hbv=>
   simp only [Q0b,Mf] at ha hb;exact .func fn a b A B ha hb (Qbj a hr.1 (fun i=>A.getD i Qr) (fun i x hx=>hav i _ fi))
    (Qbj b hr.2 (fun i=>B.getD i Qr) (fun i x hx=>hbv i _ fi))
 | .iface t v,_,hr,h=>by rw [Q6m] at h;cases h with | iface _ _ u hv=>exact .iface t v u (Qmb v u (by simp_all [refsLt]) hv)
 | .agg cs,_,hr,h=>by
  simp only [refsLt] at hr;rw [Q6m] at h
  cases h with
  | agg _ C hn h1 hv=>
   simp only [Q0b,Mf] at hn;exact .agg cs C hn h1 (Qbj cs hr (fun i=>C.getD i Qr) (fun i x hx=>hv i _ fi))
 | .tuple cs,_,hr,h=>by
  simp only [refsLt] at hr;rw [Q6m] at h
  cases h with
  | tuple _ C hn hv=>
   simp only [Q0b,Mf] at hn;exact .tuple cs C hn (Qbj cs hr (fun i=>C.getD i Qr) (fun i x hx=>hv i _ fi))
 | .any,cv,_,_ => .any cv
def Qbj {θ:Th} {ρ:Nat->Nat} {S:Nat->Prop} {w:World} {n:Nat}:∀ (vs:List AV),refsLt.refsLts n vs=true->∀ (g:Nat->Value),(∀ (i:Nat) x,vs[i]? = some x->RelV θ S w (Q6m ρ x) (g i))->∀ (i:Nat) x,vs[i]? = some x->RelV (rθ θ ρ n) S w x (g i)
 | [],_,_,_,i,x,hx=>by simp_all
 | v::vs,hr,g,h,i,x,hx=>by
  simp only [refsLt.refsLts,Le] at hr
  cases i with
  | zero=>simp at hx;subst hx;exact Qmb v _ hr.1 (h 0 v rfl)
  | succ i=>exact Qbj vs hr.2 (fun i=>g (i+1)) (fun i x hx=>h (i+1) x (by simp_all)) i x (by simp_all)
end
def Qgu {θ:Th} {ρ:Nat->Nat} {K:Nat->Prop} {S:Nat->Prop} {w:World} {H:List AObj} {n:Nat} (hH:Hp θ H w) (hS1:∀ c,Qu θ H c->S c) (hS2:∀ a o l,K a->H[a]? = some o->o.live=true->θ a=some l->∀ c,o.occ l c->S c)
  {v u:AV} (h:RenV ρ K H v u):∀ cv,refsLt n u=true->RelV θ (Qu θ H) w v cv->RelV (rθ θ ρ n) S w u cv:=by
 have lts:∀ (l:List AV),refsLt.refsLts n l=true->∀ (i:Nat) x,l[i]? = some x->refsLt n x=true:=bp
 induction h with
 | same u=>intro cv hr h;exact (Qmb u cv hr h).mono (fun _ _ e=>e) (fun c _ hf=>⟨hS1 c hf,rfl⟩)
 | any v=>intro cv _ _;exact .any cv
 | nil e a off=>
  intro cv _ h;have:=Q06 h;subst this;exact .sliceN e a off none
 | nil0 e a off=>
  intro cv _ h;obtain ⟨o,rfl⟩:=Q8s h;exact .sliceN e a off o
 | frz v x h=>intro cv _ hr;exact .p _ _ (Q6o (S:=S) hH hS1 hS2 h hr)
 | agg cs ds hn _ ih=>
  intro cv hr h;simp only [refsLt] at hr
  cases h with
  | agg _ C hc h1 hv=>
   refine .agg ds C (by omega) h1 (fun i u hu=>?_)
   exact ez
 | tuple cs ds hn _ ih=>
  intro cv hr h;simp only [refsLt] at hr
  cases h with
  | tuple _ C hc hv=>
   refine .tuple ds C (by omega) (fun i u hu=>?_)
   exact ez
 | pagg ps ds hn _ ih=>
  intro cv hr h;simp only [refsLt] at hr
  cases h with
  | p _ _ h=>
   cases h with
   | agg _ C hc h1 hv=>
    refine .agg ds C (by omega) h1 (fun i u hu=>?_)
    have hlt:i<ps.length:=by grind
    exact ih i ps[i] u (La hlt) hu _ (lts ds hr i u hu) (.p _ _ (hv i _ (La hlt)))
def Qbk {ρ:Nat->Nat} {K:Nat->Prop} {H:List AObj}:∀ (H':List AObj) (i:Nat),Qei ρ K H i H'->∀ (b:Nat) o,H'[b]? = some o->o.live=true->Zbi ρ K H (i+b) o
 | [],_,_,b,o,hb,_=>by simp_all
 | o'::r,i,h,b,o,hb,hl=>by
  have key:Qei ρ K H (i+1) r∧(o'.live=true->Zbi ρ K H i o'):=by
   cases o'<;>simp only [Qei] at h<;>first | exact ⟨h,fun h=>by cases h⟩ | exact ⟨h.2,fun _=>h.1⟩
  cases b with
  | zero=>simp_all
  | succ b=>
   have:=Qbk r (i+1) key.1 b o (by simp_all) hl
   grind
theorem Q53 {ρ:Nat->Nat} (o:AObj):(Qcd ρ o).live=o.live:=gM
def RenO.live {ρ:Nat->Nat} {K:Nat->Prop} {H:List AObj} {o o':AObj} (h:RenO ρ K H o o'):o.live=o'.live:=by
 rcases h with rfl | ⟨_,_,_,rfl,rfl,_⟩
 ·exact Q53 o'
 rfl
theorem Q1q {ρ:Nat->Nat} (o:AObj) (l:Loc) (c:Nat):(Qcd ρ o).occ l c↔o.occ l c:=gM
def RenO.occ {ρ:Nat->Nat} {K:Nat->Prop} {H:List AObj} {o o':AObj} (h:RenO ρ K H o o') (l:Loc) (c:Nat) (e:o'.occ l c):o.occ l c:=by
 rcases h with rfl | ⟨_,_,_,rfl,rfl,_⟩
 ·simp_all [Q1q]
 exact e
def Qna {ρ:Nat->Nat} {n:Nat} {H':List AObj} (h:Z2h ρ n H'=true):(∀ i,i<H'.length->i<n->ρ i=i) ∧
  ∀ (i j:Nat) oi oj,H'[i]? = some oi->H'[j]? = some oj->oi.live=true->oj.live=true->ρ i = ρ j->i=j:=by
 grind [Z2h]
def Qya {ρ:Nat->Nat} {H':List AObj} {a:Nat} (h:KD ρ H' a):∀ (i:Nat) o,H'[i]? = some o->o.live=true->ρ i≠a:=fun i o ho hl he=>by
 have h1:=(Ld.1 ho).1;have:=Ln.1 h i (List.mem_range.2 h1)
 simp_all
def Ql9 {θ:Th} {ρ:Nat->Nat} {K:Nat->Prop} {S:Nat->Prop} {w:World} {H:List AObj} {n:Nat} (hH:Hp θ H w) (hS1:∀ c,Qu θ H c->S c) (hS2:∀ a o l,K a->H[a]? = some o->o.live=true->θ a=some l->∀ c,o.occ l c->S c)
  {o o':AObj} (hr:RenO ρ K H o o') (hro:Q1s n o'=true) {l:Loc} (ho:RelObj θ (Qu θ H) w o l):RelObj (rθ θ ρ n) S w o' l:=by
 have lts:∀ (l:List AV),refsLt.refsLts n l=true->∀ (i:Nat) x,l[i]? = some x->refsLt n x=true:=bp
 rcases hr with rfl | ⟨cs,cs',more,rfl,rfl,hl⟩
 ·have mono:∀ {x:AV} {v:Value},RelV (rθ θ ρ n) (Qu θ H) w x v->RelV (rθ θ ρ n) S w x v:=fun r=>r.mono (fun _ _ e=>e) (fun c _ hf=>⟨hS1 c hf,rfl⟩)
  cases o' with
  | cells cs=>
   obtain ⟨C,t,fz,q1,q2,q3,q4,q5⟩:=ho;simp only [Q0b,Mf] at q4;refine ⟨C,t,fz,q1,q2,q3,q4,fun j v hj=>⟨mono ?_,(q5 j _ (by rw [Q0b,Ll,hj];rfl)).2⟩⟩;exact Qbj cs hro (fun j=>C.getD (l.off+j) Qr) (fun j v hj=>(q5 j _ fi).1) j v hj
  | map es=>
   obtain ⟨E,cl,q1,q2,q4,q3⟩:=ho;simp only [Mf] at q2;refine ⟨E,cl,q1,q2,q4,fun i k v hi=>?_⟩;have hq:=q3 i k (Q6m ρ v) (by simp_all);refine ⟨hq.1.mono (fun c _ hf=>⟨hS1 c hf,rfl⟩),mono ?_⟩
   exact Qmb v _ (by
    have:=Ln.1 hro (k,v) (Mk hi)
    omega) hq.2
  | strIter s pos=>exact ho
  | dead=>trivial
  | ext R a=>
   obtain ⟨⟨la,q1,q2⟩,q3⟩:=ho;have hlt:a<n:=Aa hro;exact ⟨⟨la,by simp_all [rθ],q2⟩,q3⟩
 obtain ⟨C,t,fz,q1,q2,q3,q4,q5⟩:=ho;rw [Mp] at q4;refine ⟨C,t,fz,q1,q2,q3,by rw [← hl.1];omega,fun j u hj=>?_⟩
 have hlt:j<cs.length:=by rw [hl.1];exact (Ld.1 hj).1
 have:=q5 j cs[j] (by grind);exact ⟨Qgu hH hS1 hS2 (hl.2 j cs[j] u (La hlt) hj) _ (lts cs' hro j u hj) this.1,this.2⟩
def Qgq {ρ:Nat->Nat} {n:Nat} {θ:Th} {w:World} {tm tm':List AV} {H H':List AObj} (hw:Ren ρ n tm H tm' H') (hH:Hp θ H w) :
  (∀ (i:Nat) v u cv,tm[i]? = some v->tm'[i]? = some u->RelV θ (Qu θ H) w v cv->RelV (rθ θ ρ H'.length) (Qu (rθ θ ρ H'.length) H') w u cv)∧Hp (rθ θ ρ H'.length) H' w∧(∀ c,NL θ H c->NL (rθ θ ρ H'.length) H' c):=by
 obtain ⟨h1,h2,h3,h4,h5⟩:=hw;obtain ⟨i1,i2⟩:=Qna h3
 have get:∀ (b:Nat) o l,H'[b]? = some o->o.live=true->rθ θ ρ H'.length b=some l->(∃ o0,H[ρ b]? = some o0∧RenO ρ (KD ρ H') H o0 o∧o0.live=true) ∧ θ (ρ b)=some l:=by
  intro b o l hb hl hθ;have hlt:=(Ld.1 hb).1;simp only [rθ,Af hlt] at hθ;refine ⟨?_,hθ⟩;have:=Qbk H' 0 h2 b o hb hl;rw [Mi] at this
  exact dJ
 have nl:∀ c,NL θ H c->NL (rθ θ ρ H'.length) H' c:=by
  intro c hf b o l hb hl hθ;obtain ⟨⟨o0,g1,g2,g3⟩,g4⟩:=get b o l hb hl hθ;exact fun e=>hf _ o0 l g1 g3 g4 (g2.occ _ _ e)
 have free:∀ c,Qu θ H c->Qu (rθ θ ρ H'.length) H' c:=fun c hf=>⟨hf.1,nl c hf.2⟩
 have hS2:∀ a o l,KD ρ H' a->H[a]? = some o->o.live=true->θ a=some l->∀ c,o.occ l c->Qu (rθ θ ρ H'.length) H' c:=by
  intro a o l hk ho hl hθ c hc;refine ⟨hH.good a o l ho hl hθ c hc,fun b ob lb hb hbl hθb=>?_⟩;obtain ⟨⟨o0,g1,g2,g3⟩,g4⟩:=get b ob lb hb hbl hθb;exact fun e=>hH.dist (ρ b) a o0 o lb l g1 ho g3 hl g4 hθ (Qya hk b ob hb hbl) c (g2.occ _ _ e) hc
 refine ⟨?_,⟨?_,?_,?_,?_,hH.badlt,fun b R e hb=>?_⟩,nl⟩
 rotate_right
 ·have hlt:=(Ld.1 hb).1;have:=Qbk H' 0 h2 b _ hb rfl;rw [Mi] at this
  rcases this with ⟨o0,g1,g2⟩ | ⟨g2,_⟩
  ·rcases g2 with rfl | ⟨_,_,_,rfl,g2,_⟩
   ·obtain ⟨l,hl⟩:=hH.tok _ _ _ g1<;>simp_all [rθ]
   simp_all
  simp_all
 ·intro i v u cv hv hu hr
  have hrf:refsLt H'.length u=true:=by
   have:∀ (vs:List AV),refsLt.refsLts H'.length vs=true->∀ (i:Nat) x,vs[i]? = some x->refsLt H'.length x=true:=by
    intro vs
    induction vs with
    | nil=>simp
    | cons u us ih=>
     grind [refsLt.refsLts]
   exact this tm' h4 i u hu
  exact Qgu hH free hS2 (h1.2 i v u hv hu) cv hrf hr
 ·intro b o l hb hl
  by_cases hlive:o.live=true
  ·obtain ⟨⟨o0,g1,g2,g3⟩,g4⟩:=get b o l hb hlive hl;have hro:Q1s H'.length o=true:=Ln.1 h5 o (Mk hb);exact Ql9 hH free hS2 g2 hro (hH.obj _ _ l g1 g4)
  cases o<;>first | (exact absurd rfl hlive) | trivial
 ·intro p q op oq lp lq hp hq hpl hql htp htq hne;obtain ⟨⟨o1,g1,g2,g3⟩,g4⟩:=get p op lp hp hpl htp;obtain ⟨⟨o2,k1,k2,k3⟩,k4⟩:=get q oq lq hq hql htq;exact fun c h1 h2=>hH.dist _ _ _ _ lp lq g1 k1 g3 k3 g4 k4 (fun e=>hne (i2 p q op oq hp hq hpl hql e)) c (g2.occ _ _ h1) (k2.occ _ _ h2)
 ·simp_all [rθ,Ae]
 intro b o l hb hbl hl;obtain ⟨⟨o1,g1,g2,g3⟩,g4⟩:=get b o l hb hbl hl;exact fun c h1=>hH.good _ _ l g1 g3 g4 c (g2.occ _ _ h1)
def Qtl {ρ:Nat->Nat} {n:Nat} {θ:Th} {w:World} {tm tm':List AV} {H H':List AObj} {a:Act} (hw:Ren ρ n tm H tm' H') (hT:TmOk θ (Qu θ H) w tm a) (hH:Hp θ H w) :
  TmOk (rθ θ ρ H'.length) (Qu (rθ θ ρ H'.length) H') w tm' a∧Hp (rθ θ ρ H'.length) H' w∧(∀ c,NL θ H c->NL (rθ θ ρ H'.length) H' c):=by
 obtain ⟨h1,h2,h3⟩:=Qgq hw hH;refine ⟨⟨by rw [hT.size,hw.tm.1],fun i u hu=>?_,hT.defers⟩,h2,h3⟩
 have hlt:i<tm.length:=by rw [hw.tm.1];exact (Ld.1 hu).1
 exact h1 i tm[i] u _ (La hlt) hu (hT.val i _ (La hlt))
def Qib {ρ:Nat->Nat} {θ0 θ:Th} {w0 w:World} {tm tm':List AV} {H0 H H':List AObj} (hw:Ren ρ H0.length tm H tm' H') (hH:Hp θ H w)
  (hE:EvoS θ0 H0 w0 θ H w) (h0:Hp θ0 H0 w0) (hlen:H0.length≤H'.length):EvoS θ0 H0 w0 (rθ θ ρ H'.length) H' w:=by
 obtain ⟨_,_,hf⟩:=Qgq hw hH;obtain ⟨i1,_⟩:=Qna hw.inj
 refine ⟨⟨fun b l e=>?_,hE.bad,fun c hc hfr=>⟨hf c (hE.nl c hc hfr).1,(hE.nl c hc hfr).2⟩,hE.size,hE.os,hE.tape,hE.output⟩,hlen,fun b hb=>by
  simp only [rθ];rw [Af (by omega),i1 b (by omega) hb];exact hE.old b hb⟩
 have hb:b<H0.length:=by
  by_cases h:b<H0.length
  ·exact h
  rw [h0.fresh b (by omega)] at e;simp_all
 simp only [rθ];rw [Af (by omega),i1 b (by omega) hb];exact hE.ext b l e
def Qrq {σ:Type} (n:Nat) (T : σ->List AV) (Hs : σ->List AObj) (J : σ->Prop) (μ : σ->Nat) (s : σ) (Q:CExit->List AV->List AObj->Prop):CExit->List AV->List AObj->Prop
 | .normal,tm',H'=>∃ s',J s' ∧ μ s' < μ s∧∃ ρ,Ren ρ n tm' H' (T s') (Hs s')
 | .exit i,tm',H'=>Q (.exit i) tm' H'
 | .ret,tm',H'=>Q .ret tm' H'
def Qtr {σ:Type} (T : σ->List AV) (Hs : σ->List AObj) (J : σ->Prop) (μ : σ->Nat) {b:CC} {tm:List AV} {H:List AObj} {Q:CExit->List AV->List AObj->Prop} (s0 : σ) (h0:J s0)
  (hw:∃ ρ,Ren ρ H.length tm H (T s0) (Hs s0)) (hlen:∀ s,J s->H.length≤(Hs s).length)
  (step:∀ s,J s->ev (EP P Gl) b (T s) (Hs s) (Qrq H.length T Hs J μ s Q)):Qaj P Gl b tm H Q:=by
 intro code hk θ a w hT hH hG;refine wp_loop_ghost (fun n a' w'=>∃ s θ',J s ∧ μ s=n∧TmOk θ' (Qu θ' (Hs s)) w' (T s) a'∧Hp θ' (Hs s) w'∧EvoS θ H w θ' (Hs s) w') (μ s0) ?_ ?_
 ·obtain ⟨ρ,hw⟩:=hw;obtain ⟨q1,q2,q3⟩:=Qtl hw hT hH;exact ⟨s0,_,h0,rfl,q1,q2,Qib hw hH (.refl _ _ _) hH (hlen s0 h0)⟩
 rintro n a' w' ⟨s,θ',hs,rfl,q1,q2,q3⟩
 refine wp_mono (Qdx code b hk _ _ _ (step s hs) θ' a' w' q1 q2 (hG.evo q3.toEvo)) ?_
 rintro e a'' w'' ⟨ce,tm',H',θ'',r1,r2,r3,r4,r5⟩
 cases ce<;>cases e<;>simp only [Qjj] at r1
 ·obtain ⟨s',j1,j2,ρ,j3⟩:=r2;obtain ⟨p1,p2,p3⟩:=Qtl j3 r3 r4;exact ⟨μ s',j2,s',_,j1,rfl,p1,p2,Qib j3 r4 (q3.trans r5) hH (hlen s' j1)⟩
 ·subst r1;exact ⟨.exit _,tm',H',θ'',rfl,r2,r3,r4,q3.trans r5⟩
 exact ⟨.ret,tm',H',θ'',trivial,r2,r3,r4,q3.trans r5⟩
def Z1f {σ:Type} (n:Nat) (T : σ->List AV) (Hs : σ->List AObj) (J : σ->Prop) (Q:CExit->List AV->List AObj->Prop):CExit->List AV->List AObj->Prop
 | .normal,tm',H'=>∃ s',J s'∧∃ ρ,Ren ρ n tm' H' (T s') (Hs s')
 | .exit i,tm',H'=>Q (.exit i) tm' H'
 | .ret,tm',H'=>Q .ret tm' H'
def Uk {σ:Type} (T : σ->List AV) (Hs : σ->List AObj) (J : σ->Prop) {a b:CC} {tm:List AV} {H:List AObj} {Q:CExit->List AV->List AObj->Prop} (hlen:∀ s,J s->H.length≤(Hs s).length)
  (h1:ev (EP P Gl) a tm H (Z1f H.length T Hs J Q)) (h2:∀ s,J s->ev (EP P Gl) b (T s) (Hs s) Q):Z85 P Gl a b tm H Q:=by
 intro ca cb ha hb θ ac w hT hH hG;refine wp_seq (wp_mono (Qdx ca a ha tm H _ h1 θ ac w hT hH hG) ?_)
 rintro e a' w' ⟨ce,tm',H',θ',r1,r2,r3,r4,r5⟩
 cases ce<;>cases e<;>simp only [Qjj] at r1
 ·obtain ⟨s',j1,ρ,j3⟩:=r2;obtain ⟨p1,p2,p3⟩:=Qtl j3 r3 r4;have hE:=Qib j3 r4 r5 hH (hlen s' j1);refine wp_mono (Qdx cb b hb _ _ _ (h2 s' j1) _ a' w' p1 p2 (hG.evo hE.toEvo)) ?_
  rintro e a'' w'' ⟨ce,tm'',H'',θ'',q1,q2,q3,q4,q5⟩
  exact ⟨ce,tm'',H'',θ'',q1,q2,q3,q4,hE.trans q5⟩
 ·subst r1;exact ⟨.exit _,tm',H',θ',rfl,r2,r3,r4,r5⟩
 exact ⟨.ret,tm',H',θ',trivial,r2,r3,r4,r5⟩
end
end
end Go.Av
