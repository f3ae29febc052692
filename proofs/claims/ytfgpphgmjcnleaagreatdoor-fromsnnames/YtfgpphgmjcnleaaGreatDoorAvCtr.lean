/- Part of FromsnNames: the law returns true; no condition. -/
import Derived.Test.YtfgpphgmjcnleaaGreatDoorAvFunc
set_option linter.all false
namespace Go.Av
noncomputable section
section
variable {P:Program} {Gl:Nat->Option (List PV)}

theorem Qo {f:Nat} {args:List AV} {H:List AObj} {Q Q':AV->List AObj->Prop} (h:Q8 P Gl f args H Q) (hq:∀ v H',Q v H'->Q' v H'):Q8 P Gl f args H Q':=
 ⟨h.1,fun θ w cargs h1 h2 h3=>(h.2 θ w cargs h1 h2 h3).mono fun _ _ ⟨r,cr,H',θ',q1,q2,q3⟩=>⟨r,cr,H',θ',q1,hq _ _ q2,q3⟩⟩

def refsLt (n:Nat):AV->Bool
 | .ptr a _=>a<n
 | .slice _ a _ _=>a<n
 | .map a=>a<n
 | .agg cs=>refsLts n cs
 | .tuple cs=>refsLts n cs
 | .func _ a b=>refsLts n a&&refsLts n b
 | .iface _ v=>refsLt n v
 | _=>true
where refsLts (n:Nat):List AV->Bool
 | []=>true
 | v::vs=>refsLt n v&&refsLts n vs
def Yn (n:Nat):AObj->Bool
 | .cells cs=>refsLt.refsLts n cs
 | .map es=>es.all fun p=>refsLt n p.2
 | .ext _ a=>decide (a<n)
 | _=>true
def Qr6:List AV->List AV->Prop
 | [],[]=>True
 | _::vs,.any::us=>Qr6 vs us
 | v::vs,u::us=>v=u∧Qr6 vs us
 | _,_=>False
def cutθ (θ:Th) (n:Nat):Th:=⟨fun a=>if a<n then θ a else none,θ.bad⟩

mutual
theorem Q64 {θ:Th} {S:Nat->Prop} {w:World} {n:Nat}:∀ (v:AV) (cv:Value),refsLt n v=true->RelV θ S w v cv->RelV (cutθ θ n) S w v cv
 | .p x,_,_,h=>by cases h with | p _ _ h=>exact .p _ _ h
 | .ptr a off,_,hr,h=>by
  cases h with
  | ptr _ _ l hl=>exact .ptr a off l (by simp only [refsLt,Ag] at hr;simp [cutθ,hr,hl])
 | .gptr g off,_,_,h=>by cases h;exact .gptr _ _
 | .rptr cs,_,_,h=>by cases h with | rptr _ blk off val hS hc h1 hv=>exact .rptr _ blk off val hS hc h1 hv
 | .slice e a off len,_,hr,h=>by
  cases h with
  | slice _ _ _ _ cap l addr hl he h1 h2 h3=>exact .slice _ _ _ _ cap l addr (by simp only [refsLt,Ag] at hr;simp [cutθ,hr,hl]) he h1 h2 h3
  | sliceN _ _ _ o=>exact .sliceN _ _ _ o
 | .map a,_,hr,h=>by
  cases h with
  | map _ l hl=>exact .map a l (by simp only [refsLt,Ag] at hr;simp [cutθ,hr,hl])
 | .func fn a b,_,hr,h=>by
  simp only [refsLt,Lb] at hr
  cases h with
  | func _ _ _ A B ha hb hav hbv=>
   exact .func fn a b A B ha hb (Q0l a hr.1 (fun i=>A.getD i Qc) hav) (Q0l b hr.2 (fun i=>B.getD i Qc) hbv)
 | .iface t v,_,hr,h=>by cases h with | iface _ _ u hv=>exact .iface t v u (Q64 v u (by simpa [refsLt] using hr) hv)
 | .agg cs,_,hr,h=>by
  simp only [refsLt] at hr
  cases h with
  | agg _ C hn h1 hv=>exact .agg cs C hn h1 (Q0l cs hr (fun i=>C.getD i Qc) hv)
 | .tuple cs,_,hr,h=>by
  simp only [refsLt] at hr
  cases h with
  | tuple _ C hn hv=>exact .tuple cs C hn (Q0l cs hr (fun i=>C.getD i Qc) hv)
 | .any,cv,_,_ => .any cv
theorem Q0l {θ:Th} {S:Nat->Prop} {w:World} {n:Nat}:∀ (vs:List AV),refsLt.refsLts n vs=true->∀ (g:Nat->Value),(∀ (i:Nat) x,vs[i]? = some x->RelV θ S w x (g i))->∀ (i:Nat) x,vs[i]? = some x->RelV (cutθ θ n) S w x (g i)
 | [],_,_,_,i,x,hx=>by simp at hx
 | v::vs,hr,g,h,i,x,hx=>by
  simp only [refsLt.refsLts,Lb] at hr
  cases i with
  | zero=>simp at hx;subst hx;exact Q64 v _ hr.1 (h 0 v rfl)
  | succ i=>exact Q0l vs hr.2 (fun i=>g (i+1)) (fun i x hx=>h (i+1) x (by simpa using hx)) i x (by simpa using hx)
end

def Q5r (P:Program) (Gl:Nat->Option (List PV)) (f:Nat) (args:List PV) (r:PV):Prop:=
 Qd0 P f=true∧∀ (bad:Nat->Prop) w (cargs:Array Value),(∀ c,bad c->c<w.heap.size)->cargs.size=args.length->(∀ (i:Nat) x,args[i]? = some x->RelP (fun c=>¬ bad c) w x (cargs.getD i Qc)) ->
  GlobOK Gl ⟨fun _=>none,bad⟩ [] w ->
  Calls P f cargs w fun e w'=>∃ cr,e = .returned cr∧RelP (fun c=>¬ bad c) w' r cr∧RowKit.Below w.heap.size w w'

inductive Frz (K:Nat->Prop) (H:List AObj):AV->PV->Prop
 | p (x:PV):Frz K H (.p x) x
 | nil (esz:Nat):Frz K H (.p .nilSlice) (.slice esz [])
 | zero (esz:Nat):Frz K H (.p .slice0) (.slice esz [])
 | slice (esz a off len:Nat) (cs:List AV) (rows:List (List PV)) (hk:K a) (ho:H[a]? = some (.cells cs)) (hl:rows.length=len) (hr:∀ r∈rows,r.length=esz)
   (hn:((cs.drop off).take (len * esz)).length=rows.flatten.length) (hv:∀ (i:Nat) v x,((cs.drop off).take (len * esz))[i]? = some v->rows.flatten[i]? = some x->Frz K H v x):Frz K H (.slice esz a off len) (.slice esz rows)
 | agg (cs:List AV) (ps:List PV) (hn:cs.length=ps.length) (h:∀ (i:Nat) v x,cs[i]? = some v->ps[i]? = some x->Frz K H v x):Frz K H (.agg cs) (.agg ps)
 | tuple (cs:List AV) (ps:List PV) (hn:cs.length=ps.length) (h:∀ (i:Nat) v x,cs[i]? = some v->ps[i]? = some x->Frz K H v x):Frz K H (.tuple cs) (.tuple ps)
 | func (fn:Fn) (a b:List AV) (a' b':List PV) (n1:a.length=a'.length) (h1:∀ (i:Nat) v x,a[i]? = some v->a'[i]? = some x->Frz K H v x)
   (n2:b.length=b'.length) (h2:∀ (i:Nat) v x,b[i]? = some v->b'[i]? = some x->Frz K H v x):Frz K H (.func fn a b) (.func fn a' b')
 | iface (t:TypeId) (v:AV) (x:PV) (h:Frz K H v x):Frz K H (.iface t v) (.iface t x)
 | map (r:Nat) (es:List (PV×AV)) (ps:List (PV×PV)) (hk:K r) (ho:H[r]? = some (.map es)) (hn:es.length=ps.length) (h1:∀ (i:Nat) k v k' x,es[i]? = some (k,v)->ps[i]? = some (k',x)->k'=k)
   (h:∀ (i:Nat) k v k' x,es[i]? = some (k,v)->ps[i]? = some (k',x)->Frz K H v x):Frz K H (.map r) (.pmap ps)
def FrzL (K:Nat->Prop) (H:List AObj) (vs:List AV) (xs:List PV):Prop:=vs.length=xs.length∧∀ (i:Nat) v x,vs[i]? = some v->xs[i]? = some x->Frz K H v x
theorem FrzL.nil {K:Nat->Prop} {H:List AObj}:FrzL K H [] []:=⟨rfl,fun i v x h=>by simp at h⟩
theorem FrzL.cons {K:Nat->Prop} {H:List AObj} {v:AV} {x:PV} {vs:List AV} {xs:List PV} (h:Frz K H v x) (t:FrzL K H vs xs):FrzL K H (v::vs) (x::xs):=
 ⟨by simp [t.1],fun i v' x' h1 h2=>by
  cases i with
  | zero=>simp at h1 h2;subst h1;subst h2;exact h
  | succ i=>exact t.2 i v' x' (by simpa using h1) (by simpa using h2)⟩
theorem Frz.agg' {K:Nat->Prop} {H:List AObj} {cs:List AV} {ps:List PV} (h:FrzL K H cs ps):Frz K H (.agg cs) (.agg ps) := .agg cs ps h.1 h.2
theorem Frz.tuple' {K:Nat->Prop} {H:List AObj} {cs:List AV} {ps:List PV} (h:FrzL K H cs ps):Frz K H (.tuple cs) (.tuple ps) := .tuple cs ps h.1 h.2

theorem Q1i {K:Nat->Prop} {θ:Th} {H:List AObj} {w:World} {S:Nat->Prop} (hH:Hp θ H w) (hS1:∀ c,Qe θ H c->S c) (hS2:∀ a o l,K a->H[a]? = some o->o.live=true->θ a=some l->∀ c,o.occ l c->S c)
  {v:AV} {x:PV} (hf:Frz K H v x):∀ {cv:Value},RelV θ (Qe θ H) w v cv->RelP S w x cv:=by
 induction hf with
 | p x=>intro cv h;cases h with | p _ _ h=>exact h.mono (fun c _ hf=>⟨hS1 c hf,rfl⟩)
 | nil esz=>
  intro cv h;have:=X9 h;subst this;exact .sliceE esz none 0 (fun _=>rfl)
 | zero esz=>
  intro cv h
  cases h with | p _ _ h=>cases h with | slice0 a=>exact .sliceE esz a 0 (fun _=>rfl)
 | slice esz a off len cs rows hk ho hl hr hn hv ih=>
  intro cv h
  cases h with
  | sliceN _ _ _ o=>
   cases rows with
   | nil=>exact .sliceE esz o 0 (fun _=>rfl)
   | cons r0 rs=>simp at hl
  | slice _ _ _ _ cap l addr hθ he hle hsz hadr=>
   cases rows with
   | nil=>simp at hl;subst hl;exact .sliceE esz _ cap (fun h=>by cases h)
   | cons r0 rs=>
    obtain ⟨C,t,fz,h1,h2,h3,h4,h5⟩:=hH.obj a _ l ho hθ
    have hpos:0<len:=by rw [← hl];simp
    have hadr':addr=⟨l.blk,l.off+off,none⟩:=by
     rcases hadr with h | h
     ·exact h
     omega
    subst hadr';obtain ⟨f1,f2⟩:=Q0k he (r0::rs) hr
    have bound:∀ (i:Nat) (r:List PV),(r0::rs)[i]? = some r->∀ (j:Nat) (y:PV),r[j]? = some y->(r0::rs).flatten[i * esz+j]? = some y∧i * esz+j<len * esz∧off+(i * esz+j)<cs.length:=by
     intro i r hi j y hj
     have hjl:j<esz:=by rw [← hr r (Mk hi)];exact (La.1 hj).1
     have e1:(i * esz+j) / esz=i:=by rw [Nat.mul_comm,Nat.mul_add_div he,Nat.div_eq_of_lt hjl];rfl
     have e2:(i * esz+j) % esz=j:=by rw [Nat.mul_comm,Nat.mul_add_mod,Nat.mod_eq_of_lt hjl]
     have hy:(r0::rs).flatten[i * esz+j]? = some y:=by rw [f2,e1,e2,hi];exact hj
     have hlt:=(La.1 hy).1;rw [← hn,Mq,Nl] at hlt;exact ⟨hy,by omega,by omega⟩
    rw [← hl];refine .slice esz (r0::rs) l.blk (l.off+off) cap (fun i j=>if off+(i * esz+j)<cs.length then C.getD (l.off+(off+(i * esz+j))) Qc else .bool true) he hr (by omega) (hS2 a _ l hk ho rfl hθ _ rfl) (fun i r hi j y hj=>?_) (fun i j=>?_) (fun i r hi j y hj=>?_)
    ·obtain ⟨b1,_,b2⟩:=bound i r hi j y hj;rw [Af b2];unfold World.cell?;simp only [h1]
     have hlt:l.off+(off+(i * esz+j))<C.size:=by omega
     have e3:l.off+off+(i * esz+j)=l.off+(off+(i * esz+j)):=by omega
     rw [Lo,Lr hlt,e3];simp [hlt]
    ·split
     ·rename_i hlt;exact (h5 _ cs[off+(i * esz+j)] (Lc hlt)).2
     rfl
    obtain ⟨b1,b3,b2⟩:=bound i r hi j y hj;rw [Af b2];refine ih (i * esz+j) cs[off+(i * esz+j)] y ?_ b1 (h5 _ _ (Lc b2)).1;rw [Lz,Af b3,Ly,Lc b2]
 | agg cs ps hn h ih=>
  intro cv h
  cases h with
  | agg _ C hc h1 hv=>
   refine .agg ps C (by rw [hc,hn]) h1 (fun i x hx=>?_)
   have hlt:i<cs.length:=by rw [hn];exact (La.1 hx).1
   exact ih i cs[i] x (Lc hlt) hx (hv i _ (Lc hlt))
 | tuple cs ps hn h ih=>
  intro cv h
  cases h with
  | tuple _ C hc hv=>
   refine .tuple ps C (by rw [hc,hn]) (fun i x hx=>?_)
   have hlt:i<cs.length:=by rw [hn];exact (La.1 hx).1
   exact ih i cs[i] x (Lc hlt) hx (hv i _ (Lc hlt))
 | iface t v x h ih=>
  intro cv h
  cases h with
  | iface _ _ u hv=>exact .iface t x u (ih hv)
 | func fn a b a' b' n1 h1 n2 h2 ih1 ih2=>
  intro cv h
  cases h with
  | func _ _ _ A B ha hb hav hbv=>
   refine .func fn a' b' A B (by rw [ha,n1]) (by rw [hb,n2]) (fun i x hx=>?_) (fun i x hx=>?_)
   ·have hlt:i<a.length:=by rw [n1];exact (La.1 hx).1
    exact ih1 i a[i] x (Lc hlt) hx (hav i _ (Lc hlt))
   have hlt:i<b.length:=by rw [n2];exact (La.1 hx).1
   exact ih2 i b[i] x (Lc hlt) hx (hbv i _ (Lc hlt))
 | map r es ps hk ho hn hkk _ ih=>
  intro cv h
  cases h with
  | map _ l hl=>
   obtain ⟨E,clock,q1,q2,_,q3⟩:=hH.obj r _ l ho hl
   have get:∀ (i:Nat) (k' x:PV),ps[i]? = some (k',x)->∃ v,es[i]? = some (k',v):=fun i k' x hi=>by
    have hlt:i<es.length:=by rw [hn];exact (La.1 hi).1
    have he:es[i]? = some (es[i].1,es[i].2):=Lc hlt;exact ⟨es[i].2,by rw [he,hkk i _ _ k' x he hi]⟩
   refine .pmap ps l.blk E clock (hS2 r _ l hk ho rfl hl _ rfl) q1 (by rw [q2,hn]) (fun i k x hi=>?_) (fun i k x hi=>?_)
   ·obtain ⟨v,hv⟩:=get i k x hi;exact (q3 i k v hv).1.mono (fun c _ hf=>⟨hS1 c hf,rfl⟩)
   ·obtain ⟨v,hv⟩:=get i k x hi;exact ih i k v k x hv hi (q3 i k v hv).2

theorem Qae {K:Nat->Prop} {θ:Th} {H:List AObj} {w:World} {S:Nat->Prop} (hH:Hp θ H w) (hS1:∀ c,Qe θ H c->S c) (hS2:∀ a o l,K a->H[a]? = some o->o.live=true->θ a=some l->∀ c,o.occ l c->S c)
  {args:List AV} {pargs:List PV} (hf:FrzL K H args pargs) {cargs:Array Value} (ha:Q01 θ (Qe θ H) w args cargs):cargs.size=pargs.length∧∀ (i:Nat) x,pargs[i]? = some x->RelP S w x (cargs.getD i Qc):=
 ⟨by rw [ha.1,hf.1],fun i x hx=>by
  have hlt:i<args.length:=by rw [hf.1];exact (La.1 hx).1
  exact Q1i hH hS1 hS2 (hf.2 i args[i] x (Lc hlt) hx) (ha.2 i _ (Lc hlt))⟩

theorem Q6q {θ:Th} {H:List AObj} {w w':World} (hH:Hp θ H w) (hb:RowKit.Below w.heap.size w w'):Hp θ H w'∧EvoS θ H w θ H w':=by
 have hf:∀ c,c<w.heap.size->Qe θ H c->Qe θ H c∧w'.heap[c]? = w.heap[c]? := fun c hc hf=>⟨hf,hb.block c hc⟩
 refine ⟨⟨fun a o l ha hl=>(hH.obj a o l ha hl).mono (fun _ _ e=>e) hf (fun hlive c hc=>hb.block _ ((hH.obj a o l ha hl).lt hlive c hc)) hb.size,hH.dist,hH.fresh,hH.good,fun c hc=>Me (hH.badlt c hc) hb.size,hH.tok⟩,
  ⟨⟨fun _ _ e=>e,rfl,fun c hc hn=>⟨hn,hb.block c hc⟩,hb.size,hb.os,hb.tape,hb.output⟩,Lj _,fun _ _=>rfl⟩⟩

theorem Q9t {θ:Th} {H:List AObj} {w:World} {bad:Nat->Prop} (hG:GlobOK Gl θ H w) (hb:∀ c,c<w.heap.size->Qe θ H c->¬ bad c):GlobOK Gl ⟨fun _=>none,bad⟩ [] w:=by
 intro g cs hg;obtain ⟨h1,h2,vs,h3,h4,h5⟩:=hG g cs hg;have hf:∀ c,c<w.heap.size->Qe θ H c->Qe ⟨fun _=>none,bad⟩ [] c:=fun c hc hf=>⟨hb c hc hf,fun a o l h=>by simp at h⟩;exact ⟨h1,hf g h1 h2,vs,h3,h4,fun j x hx=>⟨(h5 j x hx).1,(h5 j x hx).2.mono (fun c hc hfr=>⟨hf c hc hfr,rfl⟩)⟩⟩

theorem Y1 {f:Nat} {args:List AV} {pargs:List PV} {r:PV} {H:List AObj} {Q:AV->List AObj->Prop} (hp:Q5r P Gl f pargs r) (hf:FrzL (fun _=>False) H args pargs) (hq:Q (.p r) H):Q8 P Gl f args H Q:=by
 refine ⟨hp.1,fun θ w cargs ha hH hG=>?_⟩;have hbad:∀ c,c<w.heap.size->Qe θ H c->¬ (c<w.heap.size∧¬ Qe θ H c):=fun c _ h h'=>h'.2 h;obtain ⟨a1,a2⟩:=Qae (S:=Qe θ H) hH (fun c h=>h) (fun a o l h=>h.elim) hf ha;refine (hp.2 (fun c=>c<w.heap.size∧¬ Qe θ H c) w cargs (fun c h=>h.1) a1 (fun i x hx=>(a2 i x hx).mono (fun c _ hfr=>⟨fun h=>h.2 hfr,rfl⟩)) (Q9t hG hbad)).mono ?_
 rintro e w' ⟨cr,rfl,q1,q2⟩
 obtain ⟨h1,h2⟩:=Q6q hH q2;refine ⟨_,cr,H,θ,rfl,hq,.p _ _ (q1.mono (fun c hc hn=>⟨?_,rfl⟩)),h1,h2⟩
 by_cases hlt:c<w.heap.size
 ·exact Ln fun hfr=>hn ⟨hlt,hfr⟩
 ·refine ⟨fun hb=>hlt (hH.badlt c hb),fun a o l ha hl hθ e=>?_⟩;have:=(hH.obj a o l ha hθ).lt hl c e;omega

theorem Q2 {f:Nat} {cf:CFunc} (hk:Jy P f cf=true) {args:List PV} {r:PV} (h:Q00 (EP P Gl) cf (args.map .p) [] (fun v H=>Frz (fun _=>True) H v r)):Q5r P Gl f args r:=by
 have hc:=Q3 hk h;refine ⟨hc.1,fun bad w cargs hbad hsz hargs hG=>?_⟩;have hH:=Qoy w bad hbad
 have hargs':Q01 ⟨fun _=>none,bad⟩ (Qe ⟨fun _=>none,bad⟩ []) w (args.map .p) cargs:=by
  refine ⟨by simpa using hsz,fun i v hv=>?_⟩;rw [Lk] at hv
  cases hx:args[i]? with
  | none=>rw [hx] at hv;cases hv
  | some x=>
   rw [hx] at hv;cases hv;exact .p _ _ ((hargs i x hx).mono (fun c _ hn=>⟨⟨hn,fun a o l h=>by simp at h⟩,rfl⟩))
 refine (hc.2 _ w cargs hargs' hH hG).mono ?_
 rintro e w' ⟨v,cr,H',θ',rfl,q1,q2,q3,q4⟩
 refine ⟨cr,rfl,?_,?_⟩
 ·have hbe : θ'.bad=bad:=q4.bad;exact Q1i (S:=fun c=>¬ bad c) q3 (fun c hf hb=>hf.1 (by rw [hbe];exact hb)) (fun a o l _ ha hl hθ c hc hb=>q3.good a o l ha hl hθ c hc (by rw [hbe];exact hb)) q1 q2
 exact ⟨q4.os,q4.tape,q4.output,q4.size,fun c hc=>(q4.nl c hc (fun a o l h=>by simp at h)).2⟩
end
end
abbrev Ar := @Frz.agg'
abbrev At := @Frz.tuple'
end Go.Av
