/- Part of FromsnBack: the law returns true; no condition. -/
import Derived.Test.YthbmcbacbhfnmaaGreatDoorAvSound
set_option linter.all false
namespace Go.Av
noncomputable section
set_option maxHeartbeats 4000000
section
variable {P:Program} {Gl:Nat->Option (List PV)}

def Qyi (tmps:Array Value):ResultVar->Sem Value
 | .tmp t=>pure (tmps.getD t undef)
 | .cell x t=>do loadVar t (← asAddr (tmps.getD x undef))
def Qu1 (fn:Func) (tmps:Array Value):results fn tmps=(do
  let vs ← fn.results.mapM (Qyi tmps)
  pure (if h:vs.size=1 then vs[0] else .tuple vs)):=by
 rfl

def Qcu {θ:Th} {H:List AObj} {w:World} {tm:List AV} {a:Act} (hT:TmOk θ (Qu θ H) w tm a) (hH:Hp θ H w) (hG:GlobOK Gl θ H w) :
  ∀ (rs:List ResultVar) (cs:List CRes) (k:List AV->Prop),Qb2 P rs cs=true->Qj6 (EP P Gl) tm H cs k ->
  ∃ vs us,k vs∧RelL θ (Qu θ H) w vs us∧(rs.mapM (Qyi a.tmps)).run P w = .ok us w
 | [],[],k,_,h=>⟨[],[],h,⟨rfl,fun i x h=>by simp_all⟩,by simp⟩
 | .tmp t::rs,.tmp t'::cs,k,hk,h=>by
  simp only [Qb2,Le,Aj] at hk;obtain ⟨rfl,hk⟩:=hk;simp only [Qpi,Q41] at h;obtain ⟨vs,us,h1,h2,h3⟩:=Qcu hT hH hG rs cs _ hk h
  have hv:RelV θ (Qu θ H) w (tm.getD t .any) (a.tmps.getD t undef):=by
   have:=Ze (x := .tmp t) (y := .t t) hT (by simp [Ql]);exact this
  refine ⟨_,(a.tmps.getD t undef)::us,h1,⟨by simp [h2.1],fun i x hx=>?_⟩,?_⟩
  ·cases i with
   | zero=>simp_all
   | succ i=>simpa using h2.2 i x (by simp_all)
  simp_all [Qyi]
 | .cell x ty::rs,.cell x' n agg::cs,k,hk,h=>by
  simp only [Qb2,Le,Aj] at hk;obtain ⟨⟨⟨rfl,hn⟩,hb⟩,hk⟩:=hk;simp only [Qko,Q41,Q7b,Q52,Q1u] at h
  have hv:RelV θ (Qu θ H) w (tm.getD x .any) (a.tmps.getD x undef):=by
   have:=Ze (x := .tmp x) (y := .t x) hT (by simp [Ql]);exact this
  rw [show (EP P Gl).glob=Gl from rfl] at h
  cases c1:Q2q Gl H (tm.getD x .any) with
  | none=>simp only [c1] at h;exact gS
  | some ds=>
   simp only [c1] at h
   cases c2:Q71 n ds with
   | none=>simp only [c2] at h;exact gS
   | some es=>
    simp only [c2] at h
    cases c3:sOf agg es with
    | none=>simp only [c3] at h;exact gS
    | some v=>
     simp only [c3] at h;obtain ⟨vs,us,h1,h2,h3⟩:=Qcu hT hH hG rs cs _ hk h;obtain ⟨addr,qs,hcv,hsp,hrel,hcell⟩:=Q5q hH hG hv c1;obtain ⟨rfl,hlen⟩:=Q5s c2;have hrel':=hrel.take n;obtain ⟨cv,hcv',hrv⟩:=Qld hrel' c3
     have hload:=Qd2 (w:=w) hn hb (addr:=addr) (vs:=qs.take n) ji (fun j u hj=>hcell j u (by
      grind)) hcv'
     refine ⟨_,cv::us,h1,⟨by simp [h2.1],fun i y hy=>?_⟩,?_⟩
     ·cases i with
      | zero=>simp_all
      | succ i=>simpa using h2.2 i y (by simp_all)
     simp_all [Qyi,asAddr]
 | [],_::_,_,hk,_=> fZ
 | .tmp _::_,[],_,hk,_=> fZ
 | .cell _ _::_,[],_,hk,_=> fZ
 | .tmp _::_,.cell _ _ _::_,_,hk,_=> fZ
 | .cell _ _::_,.tmp _::_,_,hk,_=> fZ

def Q8 {f:Nat} {cf:CFunc} (hk:Q5p P f cf=true) {args:List AV} {H:List AObj} {Q:AV->List AObj->Prop} (h:Q6s (EP P Gl) cf args H Q):Qq P Gl f args H Q:=by
 unfold Q5p at hk
 cases hfn:P.funcs[f]? with
 | none=>simp_all
 | some fn=>
  simp only [hfn] at hk
  cases hb:fn.body with
  | none=>simp_all
  | some code=>
   simp only [hb,Le,Aj] at hk;obtain ⟨⟨⟨hc,hn⟩,hr⟩,hname⟩:=hk;refine ⟨by simp_all [Qm8],fun θ w cargs hargs hH hG=>?_⟩;simp only [Q6s,Qn2,Q40] at h;refine calls_of_wp hfn hb ?_
   have hT:TmOk θ (Qu θ H) w (args++List.replicate (cf.ntmps - args.length) Uw) { tmps:=cargs++Array.replicate (fn.ntmps - cargs.size) undef,defers := [] }:=by
    refine ⟨by simp [hargs.1,hn],fun i v hv=>?_,rfl⟩;rw [Q5k];simp only [Array.toList_append,Array.toList_replicate];rw [Qmd];simp only [Array.length_toList]
    by_cases hi:i<args.length
    ·rw [Lm hi] at hv;rw [Af (by rw [hargs.1];omega),← Q5k];exact hargs.2 i v hv
    rw [Lq (by omega)] at hv;rw [Ae (by rw [hargs.1];omega)]
    grind [Q4n]
   refine wp_mono (Qdx code cf.body hc _ H _ h θ _ w hT hH hG) ?_
   rintro e a' w' ⟨ce,tm',H',θ',h1,h2,h3,h4,h5⟩
   have fin:∀ (h2:Qj6 (EP P Gl) tm' H' cf.results fun vs=>Qpr vs fun v=>Q v H'),a'.defers = []∧∃ v,(results fn a'.tmps).run P w' = .ok v w'∧∃ r cr H'' θ'',Ending.returned v = .returned cr∧Q r H''∧RelV θ'' (Qu θ'' H'') w' r cr∧Hp θ'' H'' w'∧EvoS θ H w θ'' H'' w':=by
    intro h2;obtain ⟨vs,us,q1,q2,q3⟩:=Qcu h3 h4 (hG.evo h5.toEvo) fn.results.toList cf.results _ hr h2
    have hm:(fn.results.mapM (Qyi a'.tmps)).run P w' = .ok us.toArray w':=by simp_all [Array.mapM_eq_mapM_toList]
    have hres:(results fn a'.tmps).run P w' = .ok (if h:us.toArray.size=1 then us.toArray[0] else .tuple us.toArray) w':=by simp_all [Qu1]
    refine ⟨h3.defers,_,hres,?_⟩
    match vs,us,q1,q2 with
    | [v],[u],q1,q2=>exact ⟨v,u,H',θ',rfl,q1,by simpa using q2.2 0 v rfl,h4,h5⟩
    | [],[],q1,q2=>exact ⟨.tuple [],_,H',θ',rfl,q1,.tuple [] #[] rfl (fun i x h=>by simp_all),h4,h5⟩
    | v::v'::vs,u::u'::us,q1,q2=>
     exact ⟨.tuple (v::v'::vs),_,H',θ',rfl,q1,by
      have:¬ ((u::u'::us).toArray.size=1):=by simp
      rw [dif_neg this]
      exact .tuple _ _ (by simpa using q2.1) (fun i x hx=>by rw [Q5k];exact q2.2 i x hx),h4,h5⟩
    | [],_::_,q1,q2=>exact absurd q2.1 (by simp)
    | _::_,[],q1,q2=>exact absurd q2.1 (by simp)
    | [_],_::_::_,q1,q2=>exact absurd q2.1 (by simp)
    | _::_::_,[_],q1,q2=>exact absurd q2.1 (by simp)
   cases ce<;>cases e<;>simp only [Qjj] at h1
   ·exact je
   ·exact h2.elim
   exact je
end
end
end Go.Av
namespace Go.Av
noncomputable section
set_option maxHeartbeats 4000000
section
variable {P:Program} {Gl:Nat->Option (List PV)}

def Vf {f:Nat} {args:List AV} {H:List AObj} {Q Q':AV->List AObj->Prop} (h:Qq P Gl f args H Q) (hq:∀ v H',Q v H'->Q' v H'):Qq P Gl f args H Q':=
 ⟨h.1,fun θ w cargs h1 h2 h3=>(h.2 θ w cargs h1 h2 h3).mono fun _ _ ⟨r,cr,H',θ',q1,q2,q3⟩=>⟨r,cr,H',θ',q1,hq _ _ q2,q3⟩⟩

def refsLt (n:Nat):AV->Bool
 | .ptr a _=>a<n
 | .slice _ a _ _=>a<n
 | .map a=>a<n
 | .agg cs=>refsLts n cs
 | .tuple cs=>refsLts n cs
 | .func _ a b=>refsLts n a&&refsLts n b
 | .iface _ v=>refsLt n v
 | _=>true
where refsLts (n:Nat):List AV->Bool
 | []=>true
 | v::vs=>refsLt n v&&refsLts n vs
def Q1s (n:Nat):AObj->Bool
 | .cells cs=>refsLt.refsLts n cs
 | .map es=>es.all fun p=>refsLt n p.2
 | .ext _ a=>decide (a<n)
 | _=>true
def Z4v:List AV->List AV->Prop
 | [],[]=>True
 | _::vs,.any::us=>Z4v vs us
 | v::vs,u::us=>v=u∧Z4v vs us
 | _,_=>False
def cutθ (θ:Th) (n:Nat):Th:=⟨fun a=>if a<n then θ a else none,θ.bad⟩

mutual
def Qd7 {θ:Th} {S:Nat->Prop} {w:World} {n:Nat}:∀ (v:AV) (cv:Value),refsLt n v=true->RelV θ S w v cv->RelV (cutθ θ n) S w v cv
 | .p x,_,_,h=>by cases h with | p _ _ h=>exact .p _ _ h
 | .ptr a off,_,hr,h=>by
  cases h with
  | ptr _ _ l hl=>exact .ptr a off l ii
 | .gptr g off,_,_,h=>by cases h;exact .gptr _ _
 | .rptr cs,_,_,h=> eY
 | .slice e a off len,_,hr,h=>by
  cases h with
  | slice _ _ _ _ cap l addr hl he h1 h2 h3=>exact .slice _ _ _ _ cap l addr ii he h1 h2 h3
  | sliceN _ _ _ o=>exact .sliceN _ _ _ o
 | .map a,_,hr,h=>by
  cases h with
  | map _ l hl=>exact .map a l ii
 | .func fn a b,_,hr,h=>by
  simp only [refsLt,Le] at hr
  cases h with
  | func _ _ _ A B ha hb hav hbv=>
   exact .func fn a b A B ha hb (Q7o a hr.1 (fun i=>A.getD i Qr) hav) (Q7o b hr.2 (fun i=>B.getD i Qr) hbv)
 | .iface t v,_,hr,h=>by cases h with | iface _ _ u hv=>exact .iface t v u (Qd7 v u (by simp_all [refsLt]) hv)
 | .agg cs,_,hr,h=>by
  simp only [refsLt] at hr
  cases h with
  | agg _ C hn h1 hv=>exact .agg cs C hn h1 (Q7o cs hr (fun i=>C.getD i Qr) hv)
 | .tuple cs,_,hr,h=>by
  simp only [refsLt] at hr
  cases h with
  | tuple _ C hn hv=>exact .tuple cs C hn (Q7o cs hr (fun i=>C.getD i Qr) hv)
 | .any,cv,_,_ => .any cv
def Q7o {θ:Th} {S:Nat->Prop} {w:World} {n:Nat}:∀ (vs:List AV),refsLt.refsLts n vs=true->∀ (g:Nat->Value),(∀ (i:Nat) x,vs[i]? = some x->RelV θ S w x (g i))->∀ (i:Nat) x,vs[i]? = some x->RelV (cutθ θ n) S w x (g i)
 | [],_,_,_,i,x,hx=>by grind
 | v::vs,hr,g,h,i,x,hx=>by
  simp only [refsLt.refsLts,Le] at hr
  cases i with
  | zero=>simp at hx;subst hx;exact Qd7 v _ hr.1 (h 0 v rfl)
  | succ i=>exact Q7o vs hr.2 (fun i=>g (i+1)) (fun i x hx=>h (i+1) x (by simp_all)) i x (by simp_all)
end

def Qcp (P:Program) (Gl:Nat->Option (List PV)) (f:Nat) (args:List PV) (r:PV):Prop:=
 Qm8 P f=true∧∀ (bad:Nat->Prop) w (cargs:Array Value),(∀ c,bad c->c<w.heap.size)->cargs.size=args.length->(∀ (i:Nat) x,args[i]? = some x->RelP (fun c=>¬ bad c) w x (cargs.getD i Qr)) ->
  GlobOK Gl ⟨fun _=>none,bad⟩ [] w ->
  Calls P f cargs w fun e w'=>∃ cr,e = .returned cr∧RelP (fun c=>¬ bad c) w' r cr∧RowKit.Below w.heap.size w w'

inductive Frz (K:Nat->Prop) (H:List AObj):AV->PV->Prop
 | p (x:PV):Frz K H (.p x) x
 | nil (esz:Nat):Frz K H (.p .nilSlice) (.slice esz [])
 | zero (esz:Nat):Frz K H (.p .slice0) (.slice esz [])
 | slice (esz a off len:Nat) (cs:List AV) (rows:List (List PV)) (hk:K a) (ho:H[a]? = some (.cells cs)) (hl:rows.length=len) (hr:∀ r∈rows,r.length=esz)
   (hn:((cs.drop off).take (len * esz)).length=rows.flatten.length) (hv:∀ (i:Nat) v x,((cs.drop off).take (len * esz))[i]? = some v->rows.flatten[i]? = some x->Frz K H v x):Frz K H (.slice esz a off len) (.slice esz rows)
 | agg (cs:List AV) (ps:List PV) (hn:cs.length=ps.length) (h:∀ (i:Nat) v x,cs[i]? = some v->ps[i]? = some x->Frz K H v x):Frz K H (.agg cs) (.agg ps)
 | tuple (cs:List AV) (ps:List PV) (hn:cs.length=ps.length) (h:∀ (i:Nat) v x,cs[i]? = some v->ps[i]? = some x->Frz K H v x):Frz K H (.tuple cs) (.tuple ps)
 | func (fn:Fn) (a b:List AV) (a' b':List PV) (n1:a.length=a'.length) (h1:∀ (i:Nat) v x,a[i]? = some v->a'[i]? = some x->Frz K H v x)
   (n2:b.length=b'.length) (h2:∀ (i:Nat) v x,b[i]? = some v->b'[i]? = some x->Frz K H v x):Frz K H (.func fn a b) (.func fn a' b')
 | iface (t:TypeId) (v:AV) (x:PV) (h:Frz K H v x):Frz K H (.iface t v) (.iface t x)
 | map (r:Nat) (es:List (PV×AV)) (ps:List (PV×PV)) (hk:K r) (ho:H[r]? = some (.map es)) (hn:es.length=ps.length) (h1:∀ (i:Nat) k v k' x,es[i]? = some (k,v)->ps[i]? = some (k',x)->k'=k)
   (h:∀ (i:Nat) k v k' x,es[i]? = some (k,v)->ps[i]? = some (k',x)->Frz K H v x):Frz K H (.map r) (.pmap ps)
def FrzL (K:Nat->Prop) (H:List AObj) (vs:List AV) (xs:List PV):Prop:=vs.length=xs.length∧∀ (i:Nat) v x,vs[i]? = some v->xs[i]? = some x->Frz K H v x
def FrzL.nil {K:Nat->Prop} {H:List AObj}:FrzL K H [] []:=⟨rfl,fun i v x h=>by simp⟩
def FrzL.cons {K:Nat->Prop} {H:List AObj} {v:AV} {x:PV} {vs:List AV} {xs:List PV} (h:Frz K H v x) (t:FrzL K H vs xs):FrzL K H (v::vs) (x::xs):=
 ⟨by simp [t.1],fun i v' x' h1 h2=>by
  cases i with
  | zero=>simp_all
  | succ i=>exact t.2 i v' x' (by simp_all) (by simp_all)⟩
def Frz.agg' {K:Nat->Prop} {H:List AObj} {cs:List AV} {ps:List PV} (h:FrzL K H cs ps):Frz K H (.agg cs) (.agg ps) := .agg cs ps h.1 h.2
def Frz.tuple' {K:Nat->Prop} {H:List AObj} {cs:List AV} {ps:List PV} (h:FrzL K H cs ps):Frz K H (.tuple cs) (.tuple ps) := .tuple cs ps h.1 h.2

def Q6o {K:Nat->Prop} {θ:Th} {H:List AObj} {w:World} {S:Nat->Prop} (hH:Hp θ H w) (hS1:∀ c,Qu θ H c->S c) (hS2:∀ a o l,K a->H[a]? = some o->o.live=true->θ a=some l->∀ c,o.occ l c->S c)
  {v:AV} {x:PV} (hf:Frz K H v x):∀ {cv:Value},RelV θ (Qu θ H) w v cv->RelP S w x cv:=by
 induction hf with
 | p x=>intro cv h;cases h with | p _ _ h=>exact h.mono (fun c _ hf=>⟨hS1 c hf,rfl⟩)
 | nil esz=>
  intro cv h;have:=Q06 h;subst this;exact .sliceE esz none 0 (fun _=>rfl)
 | zero esz=>
  intro cv h
  cases h with | p _ _ h=>cases h with | slice0 a=>exact .sliceE esz a 0 (fun _=>rfl)
 | slice esz a off len cs rows hk ho hl hr hn hv ih=>
  intro cv h
  cases h with
  | sliceN _ _ _ o=>
   cases rows with
   | nil=>exact .sliceE esz o 0 (fun _=>rfl)
   | cons r0 rs=>grind
  | slice _ _ _ _ cap l addr hθ he hle hsz hadr=>
   cases rows with
   | nil=>simp at hl;subst hl;exact .sliceE esz _ cap (fun h=>by cases h)
   | cons r0 rs=>
    obtain ⟨C,t,fz,h1,h2,h3,h4,h5⟩:=hH.obj a _ l ho hθ
    have hpos:0<len:=by grind
    have hadr':addr=⟨l.blk,l.off+off,none⟩:=by grind
    subst hadr';obtain ⟨f1,f2⟩:=Q9q he (r0::rs) hr
    have bound:∀ (i:Nat) (r:List PV),(r0::rs)[i]? = some r->∀ (j:Nat) (y:PV),r[j]? = some y->(r0::rs).flatten[i * esz+j]? = some y∧i * esz+j<len * esz∧off+(i * esz+j)<cs.length:=by
     intro i r hi j y hj
     have hjl:j<esz:=by grind
     have e1:(i * esz+j) / esz=i:=by simp_all [Nat.mul_comm,Nat.mul_add_div]
     have e2:(i * esz+j) % esz=j:=by simp_all [Nat.mod_eq_of_lt]
     have hy:(r0::rs).flatten[i * esz+j]? = some y:=by grind
     have hlt:=(Ld.1 hy).1;rw [← hn,List.length_take,List.length_drop] at hlt;exact ⟨hy,by omega,by omega⟩
    rw [← hl];refine .slice esz (r0::rs) l.blk (l.off+off) cap (fun i j=>if off+(i * esz+j)<cs.length then C.getD (l.off+(off+(i * esz+j))) Qr else .bool true) he hr (by omega) (hS2 a _ l hk ho rfl hθ _ rfl) (fun i r hi j y hj=>?_) (fun i j=>?_) (fun i r hi j y hj=>?_)
    ·obtain ⟨b1,_,b2⟩:=bound i r hi j y hj;rw [Af b2];unfold World.cell?;simp only [h1]
     have hlt:l.off+(off+(i * esz+j))<C.size:=by omega
     have e3:l.off+off+(i * esz+j)=l.off+(off+(i * esz+j)):=by omega
     simp_all
    ·split
     ·simp_all
     rfl
    obtain ⟨b1,b3,b2⟩:=bound i r hi j y hj;rw [Af b2];refine ih (i * esz+j) cs[off+(i * esz+j)] y ?_ b1 (h5 _ _ (La b2)).1
    grind
 | agg cs ps hn h ih=>
  intro cv h
  cases h with
  | agg _ C hc h1 hv=>
   refine .agg ps C (by omega) h1 (fun i x hx=>?_)
   exact fC
 | tuple cs ps hn h ih=>
  intro cv h
  cases h with
  | tuple _ C hc hv=>
   refine .tuple ps C (by omega) (fun i x hx=>?_)
   exact fC
 | iface t v x h ih=>
  intro cv h
  cases h with
  | iface _ _ u hv=>exact .iface t x u (ih hv)
 | func fn a b a' b' n1 h1 n2 h2 ih1 ih2=>
  intro cv h
  cases h with
  | func _ _ _ A B ha hb hav hbv=>
   refine .func fn a' b' A B (by omega) (by omega) (fun i x hx=>?_) (fun i x hx=>?_)
   ·have hlt:i<a.length:=by grind
    exact ih1 i a[i] x (La hlt) hx (hav i _ (La hlt))
   have hlt:i<b.length:=by grind
   exact ih2 i b[i] x (La hlt) hx (hbv i _ (La hlt))
 | map r es ps hk ho hn hkk _ ih=>
  intro cv h
  cases h with
  | map _ l hl=>
   obtain ⟨E,clock,q1,q2,_,q3⟩:=hH.obj r _ l ho hl
   have get:∀ (i:Nat) (k' x:PV),ps[i]? = some (k',x)->∃ v,es[i]? = some (k',v):=fun i k' x hi=>by
    have hlt:i<es.length:=by grind
    have he:es[i]? = some (es[i].1,es[i].2):=La hlt
    grind
   refine .pmap ps l.blk E clock (hS2 r _ l hk ho rfl hl _ rfl) q1 (by omega) (fun i k x hi=>?_) (fun i k x hi=>?_)
   ·obtain ⟨v,hv⟩:=get i k x hi;exact (q3 i k v hv).1.mono (fun c _ hf=>⟨hS1 c hf,rfl⟩)
   grind

def Qhp {K:Nat->Prop} {θ:Th} {H:List AObj} {w:World} {S:Nat->Prop} (hH:Hp θ H w) (hS1:∀ c,Qu θ H c->S c) (hS2:∀ a o l,K a->H[a]? = some o->o.live=true->θ a=some l->∀ c,o.occ l c->S c)
  {args:List AV} {pargs:List PV} (hf:FrzL K H args pargs) {cargs:Array Value} (ha:Q6h θ (Qu θ H) w args cargs):cargs.size=pargs.length∧∀ (i:Nat) x,pargs[i]? = some x->RelP S w x (cargs.getD i Qr):=
 ⟨by rw [ha.1,hf.1],fun i x hx=>by
  have hlt:i<args.length:=by rw [hf.1];exact (Ld.1 hx).1
  exact Q6o hH hS1 hS2 (hf.2 i args[i] x (La hlt) hx) (ha.2 i _ (La hlt))⟩

def Qdb {θ:Th} {H:List AObj} {w w':World} (hH:Hp θ H w) (hb:RowKit.Below w.heap.size w w'):Hp θ H w'∧EvoS θ H w θ H w':=by
 have hf:∀ c,c<w.heap.size->Qu θ H c->Qu θ H c∧w'.heap[c]? = w.heap[c]? := fun c hc hf=>⟨hf,hb.block c hc⟩
 refine ⟨⟨fun a o l ha hl=>(hH.obj a o l ha hl).mono (fun _ _ e=>e) hf (fun hlive c hc=>hb.block _ ((hH.obj a o l ha hl).lt hlive c hc)) hb.size,hH.dist,hH.fresh,hH.good,fun c hc=>Lu (hH.badlt c hc) hb.size,hH.tok⟩,
  ⟨⟨fun _ _ e=>e,rfl,fun c hc hn=>⟨hn,hb.block c hc⟩,hb.size,hb.os,hb.tape,hb.output⟩,Lh _,fun _ _=>rfl⟩⟩

def Qh9 {θ:Th} {H:List AObj} {w:World} {bad:Nat->Prop} (hG:GlobOK Gl θ H w) (hb:∀ c,c<w.heap.size->Qu θ H c->¬ bad c):GlobOK Gl ⟨fun _=>none,bad⟩ [] w:=by
 intro g cs hg;obtain ⟨h1,h2,vs,h3,h4,h5⟩:=hG g cs hg;have hf:∀ c,c<w.heap.size->Qu θ H c->Qu ⟨fun _=>none,bad⟩ [] c:=fun c hc hf=>⟨hb c hc hf,fun a o l h=>by simp⟩;exact ⟨h1,hf g h1 h2,vs,h3,h4,fun j x hx=>⟨(h5 j x hx).1,(h5 j x hx).2.mono (fun c hc hfr=>⟨hf c hc hfr,rfl⟩)⟩⟩

theorem Uo {f:Nat} {args:List AV} {pargs:List PV} {r:PV} {H:List AObj} {Q:AV->List AObj->Prop} (hp:Qcp P Gl f pargs r) (hf:FrzL (fun _=>False) H args pargs) (hq:Q (.p r) H):Qq P Gl f args H Q:=by
 refine ⟨hp.1,fun θ w cargs ha hH hG=>?_⟩;have hbad:∀ c,c<w.heap.size->Qu θ H c->¬ (c<w.heap.size∧¬ Qu θ H c):=fun c _ h h'=>h'.2 h;obtain ⟨a1,a2⟩:=Qhp (S:=Qu θ H) hH (fun c h=>h) (fun a o l h=>h.elim) hf ha;refine (hp.2 (fun c=>c<w.heap.size∧¬ Qu θ H c) w cargs (fun c h=>h.1) a1 (fun i x hx=>(a2 i x hx).mono (fun c _ hfr=>⟨fun h=>h.2 hfr,rfl⟩)) (Qh9 hG hbad)).mono ?_
 rintro e w' ⟨cr,rfl,q1,q2⟩
 obtain ⟨h1,h2⟩:=Qdb hH q2;refine ⟨_,cr,H,θ,rfl,hq,.p _ _ (q1.mono (fun c hc hn=>⟨?_,rfl⟩)),h1,h2⟩
 by_cases hlt:c<w.heap.size
 ·simp_all
 ·exact ek

def Q1 {f:Nat} {cf:CFunc} (hk:Q5p P f cf=true) {args:List PV} {r:PV} (h:Q6s (EP P Gl) cf (args.map .p) [] (fun v H=>Frz (fun _=>True) H v r)):Qcp P Gl f args r:=by
 have hc:=Q8 hk h;refine ⟨hc.1,fun bad w cargs hbad hsz hargs hG=>?_⟩;have hH:=Z3p w bad hbad
 have hargs':Q6h ⟨fun _=>none,bad⟩ (Qu ⟨fun _=>none,bad⟩ []) w (args.map .p) cargs:=by
  refine ⟨by simp_all,fun i v hv=>?_⟩;rw [Ll] at hv
  cases hx:args[i]? with
  | none=>simp_all
  | some x=>
   rw [hx] at hv;cases hv;exact .p _ _ ((hargs i x hx).mono (fun c _ hn=>⟨⟨hn,fun a o l h=>by simp⟩,rfl⟩))
 refine (hc.2 _ w cargs hargs' hH hG).mono ?_
 rintro e w' ⟨v,cr,H',θ',rfl,q1,q2,q3,q4⟩
 refine ⟨cr,rfl,?_,?_⟩
 ·have hbe : θ'.bad=bad:=q4.bad;exact Q6o (S:=fun c=>¬ bad c) q3 (fun c hf hb=>hf.1 (by simp_all)) (fun a o l _ ha hl hθ c hc hb=>q3.good a o l ha hl hθ c hc (by simp_all)) q1 q2
 exact ⟨q4.os,q4.tape,q4.output,q4.size,fun c hc=>(q4.nl c hc (fun a o l h=>by simp)).2⟩
end
end
abbrev Ar := @Frz.agg'
abbrev Au := @Frz.tuple'
end Go.Av
