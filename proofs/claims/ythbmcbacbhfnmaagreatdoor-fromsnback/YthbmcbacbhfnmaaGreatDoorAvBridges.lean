/- Part of FromsnBack: the law returns true; no condition. -/
import Derived.Test.YthbmcbacbhfnmaaGreatDoorAvFunc
import Derived.WalkKit
import Derived.ProofKit
import Derived.OpenShut
import Derived.Deep.DeepHandedRow
import Derived.Lib.LaidTab
import Derived.WideKeyArgs
import Derived.SevenTiedAt
import Derived.Below
import Derived.ChangeSame
set_option linter.all false
namespace Go.Av
noncomputable section
set_option maxHeartbeats 4000000
section
variable {P:Program}

inductive Sh (P:Program):TypeId->List PV->Prop
 | bool (t:TypeId) (h:P.underlying t=some .bool) (b:Bool):Sh P t [.bool b]
 | int (t:TypeId) (k:IntKind) (n:Int) (h:P.underlying t=some (.int k)) (h1:k.min≤n) (h2:n≤k.max):Sh P t [.int k n]
 | str (t:TypeId) (s:List UInt8) (h:P.underlying t=some .string) (hl:s.length≤maxLen):Sh P t [.str s]
 | slice (t e:TypeId) (rows:List (List PV)) (h:P.underlying t=some (.slice e)) (hl:rows.length≤maxLen) (hr:∀ r∈rows,r.length=P.cellsOf e) (hs:∀ r∈rows,Sh P e r):Sh P t [.slice (P.cellsOf e) rows]
 | struct (t:TypeId) (fs:Array Field) (cells:List PV) (h:P.underlying t=some (.struct fs)) (hn:cells.length=P.cellsOf t)
   (hf:∀ f∈fs.toList,Sh P f.type ((cells.drop f.offset).take (P.cellsOf f.type))):Sh P t cells
 | array (t e:TypeId) (n:Nat) (cells:List PV) (h:P.underlying t=some (.array n e)) (hn:cells.length=P.cellsOf t)
   (hf:∀ i,i<n->Sh P e ((cells.drop (i * P.cellsOf e)).take (P.cellsOf e))):Sh P t cells

def Qih (P:Program):List Field->Nat->Nat->Bool
 | [],n,m=>n == m
 | f::r,n,m=>f.offset == n&&Qih P r (n+P.cellsOf f.type) m
def Qfw (P:Program) (T:List TypeId):Bool:=T.all fun t=>match P.underlying t with
 | some .bool=>true
 | some (.int _)=>true
 | some .string=>true
 | some (.slice e)=>T.contains e&&decide (0<P.cellsOf e)
 | some (.struct fs)=>Qih P fs.toList 0 (P.cellsOf t)&&fs.toList.all fun f=>T.contains f.type
 | some (.array n e)=>T.contains e&&n * P.cellsOf e == P.cellsOf t
 | _=>false

mutual
def Qey:DataW Unit->Option (List PV)
 | .lit (.int k n)=>some [.int k n]
 | .lit (.bool b)=>some [.bool b]
 | .lit (.string s)=>some [.str s]
 | .agg ds=>Qfi ds
 | _=>none
def Qfi:List (DataW Unit)->Option (List PV)
 | []=>some []
 | d::ds=>match Qey d,Qfi ds with
  | some x,some y=>some (x++y)
  | _,_=>none
end

def RelCs (w:World) (ps:List PV) (cs:List Value):Prop:=
 cs.length=ps.length∧(∀ c∈cs,c.oneCell'=true)∧∀ (i:Nat) x,ps[i]? = some x->RelP (fun _=>True) w x (cs.getD i Qr)
def RelCs.one {w:World} {x:PV} {v:Value} (h:RelP (fun _=>True) w x v) (h1:v.oneCell'=true):RelCs w [x] [v]:=
 ⟨rfl,fun c hc=>by simp_all,fun i y hy=>by
  grind⟩
def RelCs.append {w:World} {ps qs:List PV} {cs ds:List Value} (h:RelCs w ps cs) (k:RelCs w qs ds):RelCs w (ps++qs) (cs++ds):=by
 refine ⟨by simp [h.1,k.1],fun c hc=>?_,fun i x hx=>?_⟩
 ·rcases Bb.1 hc with hc | hc
  ·exact h.2.1 c hc
  exact k.2.1 c hc
 ·rw [Qmd,h.1]
  by_cases hi:i<ps.length
  ·rw [Lm hi] at hx;rw [Af hi];exact h.2.2 i x hx
  ·rw [Lq (by omega)] at hx;rw [Ae hi];exact k.2.2 _ x hx

def Qm5 {w:World} {base:Nat} {a:Addr} {n:Nat} {cs:List Value} (h:w.cells? base a n=some cs):cs.length=n∧∀ i,i<n->∃ v,w.cell? (a.add i)=some v∧cs[i]? = some v:=by
 unfold World.cells? at h;split at h
 ·refine ⟨by simpa using Lib.mapM_length h,fun i hi=>?_⟩;obtain ⟨v,h1,h2⟩:=Lib.mapM_at h i i (by simp [hi])<;>simp_all
 simp_all

section
variable {H:Type} {enc:TypeId×Value->H} {w:World} {sp:Nat->Bool} {held:Bool} {T:List TypeId}

def Qkj {n:Nat} {cs:List Value} {m:Nat} (ih:∀ (t:TypeId) (cs:List Value) (x:DataW H×List MemPlace),t∈T->DataW.trod enc P w 0 sp held n t cs=some x->∃ ps,Sh P t ps∧RelCs w ps cs) (hm:cs.length=m) :
  ∀ (fs:List Field) (k:Nat) (xs:List (DataW H×List MemPlace)),Qih P fs k m=true->(∀ f∈fs,f.type∈T)->k≤m ->
  (fs.mapM fun f=>DataW.trod enc P w 0 sp held n f.type ((cs.drop f.offset).take (P.cellsOf f.type)))=some xs ->
  ∃ ps,ps.length=m - k∧(∀ f∈fs,k≤f.offset∧Sh P f.type ((ps.drop (f.offset - k)).take (P.cellsOf f.type)))∧RelCs w ps (cs.drop k)
 | [],k,xs,ht,_,hk,hx=>by
  simp only [Qih,Aj] at ht;subst ht;exact ⟨[],by simp,(fun f hf=>(by cases hf)),by rw [Mm (by omega)];exact ⟨rfl,(fun c hc=>(by cases hc)),fun i x hx=>by simp_all⟩⟩
 | f::fs,k,xs,ht,hT,hk,hx=>by
  simp only [Qih,Le,Aj] at ht;obtain ⟨ht1,ht2⟩:=ht;simp only [Bq,Nz,Ls,Nr,Lb] at hx;obtain ⟨y,hy,ys,hys,rfl⟩:=hx;obtain ⟨ps,h1,h2⟩:=ih f.type _ y (hT f (by simp)) hy;rw [ht1] at h2
  have tl:∀ (fs:List Field) (k:Nat),Qih P fs k m=true->k≤m:=by
   intro fs
   induction fs with
   | nil=>simp_all [Qih]
   | cons g gs ih=>grind [Qih]
  have hk2:=tl _ _ ht2;obtain ⟨qs,q1,q2,q3⟩:=Qkj ih hm fs (k+P.cellsOf f.type) ys ht2 (fun g hg=>hT g (by simp_all)) hk2 hys
  have hl:ps.length=P.cellsOf f.type:=by have:=h2.1;simp at this;omega
  refine ⟨ps++qs,by grind,fun g hg=>?_,?_⟩
  ·rcases Lx.1 hg with rfl | hg
   ·simp_all
   obtain ⟨g1,g2⟩:=q2 g hg;refine ⟨by omega,?_⟩
   have e:g.offset - k=ps.length+(g.offset - (k+P.cellsOf f.type)):=by omega
   grind [List.drop_drop,List.drop_left]
  ·have e:cs.drop k=(cs.drop k).take (P.cellsOf f.type)++cs.drop (k+P.cellsOf f.type):=iq
   rw [e];exact h2.append q3

def Qi2 {n:Nat} {e:TypeId} (ih:∀ (t:TypeId) (cs:List Value) (x:DataW H×List MemPlace),t∈T->DataW.trod enc P w 0 sp held n t cs=some x->∃ ps,Sh P t ps∧RelCs w ps cs) (he:e∈T) (seg:Nat->Option (List Value)) :
  ∀ (is:List Nat) (xs:List (DataW H×List MemPlace)),(is.mapM fun i=>(seg i).bind (DataW.trod enc P w 0 sp held n e))=some xs ->
  ∃ rows:List (List PV),rows.length=is.length∧(∀ r∈rows,Sh P e r)∧∀ (j:Nat) i,is[j]? = some i->∃ cs,seg i=some cs∧RelCs w (rows.getD j []) cs
 | [],xs,h=>⟨[],rfl,(fun r hr=>(by cases hr)),fun j i h=>by simp_all⟩
 | i::is,xs,h=>by
  simp only [Bq,Nz,Ls,Nr,Lb] at h;obtain ⟨y,⟨cs,hc,hy⟩,ys,hys,rfl⟩:=h;obtain ⟨ps,h1,h2⟩:=ih e cs y he hy;obtain ⟨rows,q1,q2,q3⟩:=Qi2 ih he seg is ys hys;refine ⟨ps::rows,by simp_all,fun r hr=>?_,fun j i' hj=>?_⟩
  ·grind
  grind

def got (hT:Qfw P T=true):∀ (n:Nat) (t:TypeId) (cs:List Value) (x:DataW H×List MemPlace),t∈T->DataW.trod enc P w 0 sp held n t cs=some x->∃ ps,Sh P t ps∧RelCs w ps cs
 | 0,t,cs,x,_,h=>by simp [DataW.trod] at h
 | n+1,t,cs,x,ht,h=>by
  have ih:=got hT n;have hp:=Ln.1 hT t ht;split at hp
  ·rename_i hu;obtain ⟨b,rfl,_⟩:=DataW.trod_bool hu h;exact ⟨[.bool b],.bool t hu b,.one (.bool b) rfl⟩
  ·rename_i k hu;simp only [DataW.trod,hu] at h
   split at h<;>rename_i h0<;>first | (cases h0;done) | skip
   all_goals try (simp at h0;done)
   all_goals try (cases h;done)
   ·simp only [Lb] at h0;cases h0;split at h
    ·rename_i hw;obtain ⟨rfl,hw⟩:=hw;simp only [Lit.wf,Le,Ag] at hw;exact ⟨_,.int t _ _ hu hw.1 hw.2,.one (.int _ _) rfl⟩
    cases h
  ·rename_i hu;simp only [DataW.trod,hu] at h
   split at h<;>rename_i h0<;>first | (cases h0;done) | skip
   all_goals try (simp at h0;done)
   all_goals try (cases h;done)
   ·split at h
    ·rename_i s hw;exact ⟨[.str s.data.toList],.str t _ hu (by simpa using hw),.one (.str _) rfl⟩
    cases h
  ·rename_i e hu;simp only [Le,Ag,Nv] at hp;obtain ⟨he,hpos⟩:=hp;simp only [DataW.trod,hu] at h
   split at h<;>rename_i h0<;>first | (cases h0;done) | skip
   all_goals try (simp at h0;done)
   all_goals try (cases h;done)
   ·exact ⟨[.slice (P.cellsOf e) []],.slice t e [] hu (by simp) (fun r hr=>(by cases hr)) (fun r hr=>(by cases hr)),.one (.sliceE _ none 0 (fun _=>rfl)) rfl⟩
   simp only [Lb,TypeDesc.slice.injEq] at h0;subst h0;rename_i a len cap;split at h
   ·rename_i hb;obtain ⟨elems,hel,_⟩:=Ls.1 h;obtain ⟨rows,r1,r2,r3⟩:=Qi2 ih he (fun i=>w.cells? 0 (a.add (i * P.cellsOf e)) (P.cellsOf e)) _ _ hel;simp at r1
    have hrow:∀ (i:Nat) r,rows[i]? = some r->∃ cs,w.cells? 0 (a.add (i * P.cellsOf e)) (P.cellsOf e)=some cs∧RelCs w r cs:=jg
    have hlen:∀ r∈rows,r.length=P.cellsOf e:=by
     intro r hr;obtain ⟨i,hi⟩:=List.getElem?_of_mem hr;obtain ⟨cs,c1,c2⟩:=hrow i r hi;have:=(Qm5 c1).1;have:=c2.1;omega
    refine ⟨[.slice (P.cellsOf e) rows],.slice t e rows hu (by omega) hlen r2,.one ?_ rfl⟩
    cases hrows:rows with
    | nil=>
     rw [hrows] at r1;simp at r1;subst r1;exact .sliceE _ _ _ (fun h=>by cases h)
    | cons r0 rs=>
     have hl0:len=(r0::rs).length:=by rw [← hrows];omega
     have hspot:a.spot=none:=by
      obtain ⟨cs,c1,c2⟩:=hrow 0 r0 (by rw [hrows];rfl);obtain ⟨v,v1,_⟩:=(Qm5 c1).2 0 hpos;simp only [Nat.zero_mul] at v1
      have e0:(a.add 0).add 0=a:=by simp [Addr.add]
      rw [e0] at v1;exact World.cell?_spot v1
     obtain ⟨blk,off,spot⟩:=a
     simp only at hspot
     subst hspot
     have hadd:∀ i j,((⟨blk,off,none⟩:Addr).add i).add j=⟨blk,off+(i+j),none⟩:=by grind [Addr.add]
     have hcell:∀ (i:Nat) (r:List PV),(r0::rs)[i]? = some r->∀ (j:Nat) x,r[j]? = some x->∃ v,w.cell? ⟨blk,off+(i * P.cellsOf e+j),none⟩=some v∧v.oneCell'=true∧RelP (fun _=>True) w x v:=by
      intro i r hi j x hj;rw [← hrows] at hi;obtain ⟨cs,c1,c2⟩:=hrow i r hi
      have hjl:j<P.cellsOf e:=by grind
      obtain ⟨v,v1,v2⟩:=(Qm5 c1).2 j hjl;rw [hadd] at v1;have:=c2.2.2 j x hj;rw [Lr,v2] at this;exact ⟨v,v1,c2.2.1 v (Mk v2),this⟩
     have hval:∃ val:Nat->Nat->Value,(∀ i j,(val i j).oneCell'=true)∧∀ (i:Nat) (r:List PV),(r0::rs)[i]? = some r->∀ (j:Nat) x,r[j]? = some x->w.cell? ⟨blk,off+(i * P.cellsOf e+j),none⟩=some (val i j)∧RelP (fun _=>True) w x (val i j):=by
      refine ⟨fun i j=>match w.cell? ⟨blk,off+(i * P.cellsOf e+j),none⟩ with
       | some v=>if v.oneCell' then v else .bool true
       | none => .bool true,fun i j=>?_,fun i r hi j x hj=>?_⟩
      ·simp only
       split
       ·split
        ·assumption
        rfl
       rfl
      grind
     obtain ⟨val,w1,w2⟩:=hval;rw [hl0];exact .slice (P.cellsOf e) (r0::rs) blk off cap val hpos (fun r hr=>hlen r (by rw [hrows];exact hr)) (by omega) trivial (fun i r hi j x hj=>(w2 i r hi j x hj).1) w1 (fun i r hi j x hj=>(w2 i r hi j x hj).2)
   cases h
  ·rename_i fs hu;simp only [Le] at hp;obtain ⟨ht1,ht2⟩:=hp;simp only [DataW.trod,hu] at h
   skip
   ·split at h
    ·rename_i hl;rw [Mo] at h;obtain ⟨xs,hx,_⟩:=h;obtain ⟨ps,p1,p2,p3⟩:=Qkj ih hl fs.toList 0 xs ht1 (fun f hf=>by grind) (Lk _) hx;exact ⟨ps,.struct t fs ps hu (by omega) (fun f hf=>by simpa using (p2 f hf).2),by simpa using p3⟩
    cases h
  ·rename_i m e hu;simp only [Le,Aj,Nv] at hp;obtain ⟨he,hsz⟩:=hp;simp only [DataW.trod,hu] at h
   skip
   ·split at h
    ·rename_i hl;rw [Mo] at h;obtain ⟨xs,hx,_⟩:=h;obtain ⟨rows,r1,r2,r3⟩:=Qi2 ih he (fun i=>some ((cs.drop (i * P.cellsOf e)).take (P.cellsOf e))) (List.range m) xs (by simpa using hx);simp at r1
     have hrow:∀ (i:Nat) r,rows[i]? = some r->RelCs w r ((cs.drop (i * P.cellsOf e)).take (P.cellsOf e)):=jg
     have key:∀ (rows:List (List PV)) (k:Nat),(∀ (i:Nat) r,rows[i]? = some r->RelCs w r ((cs.drop ((k+i) * P.cellsOf e)).take (P.cellsOf e)))->(k+rows.length) * P.cellsOf e=cs.length ->
       RelCs w rows.flatten (cs.drop (k * P.cellsOf e))∧∀ i,i<rows.length->(rows.flatten.drop (i * P.cellsOf e)).take (P.cellsOf e)=rows.getD i []:=by
      intro rows
      induction rows with
      | nil=>intro k _ hk;simp at hk;exact ⟨by rw [Mm (by omega)];exact ⟨rfl,(fun c hc=>(by cases hc)),fun i x hx=>by simp at hx⟩,fun i hi=>by simp at hi⟩
      | cons r rs ih2=>
       intro k hr hk;simp only [Mj] at hk;have h1:=hr 0 r rfl;simp only [Bj] at h1;obtain ⟨i1,i2⟩:=ih2 (k+1) (fun i r hi=>by have:=hr (i+1) r (by simpa using hi);grind) (by grind)
       have hle:(k+1) * P.cellsOf e≤cs.length:=by grind
       rw [Nw] at hle
       have hrl:r.length=P.cellsOf e:=by have:=h1.1;simp at this;omega
       refine ⟨?_,fun i hi=>?_⟩
       ·have e1:cs.drop (k * P.cellsOf e)=(cs.drop (k * P.cellsOf e)).take (P.cellsOf e)++cs.drop ((k+1) * P.cellsOf e):=gg
        rw [e1,Nu];exact h1.append i1
       cases i<;>grind [Nat.succ_mul,List.drop_drop,List.drop_left]
     obtain ⟨k1,k2⟩:=key rows 0 (by simpa using hrow) (by simp_all);simp only [Nat.zero_mul,Br] at k1;refine ⟨rows.flatten,.array t e m _ hu (by have:=k1.1;omega) (fun i hi=>?_),k1⟩
     simp_all
    cases h
  cases hp
end
end
end
end Go.Av
namespace Go.Av
noncomputable section
set_option maxHeartbeats 4000000
open Go.RowKit Go.WideShapes Go.ChangeShapes
section
variable {H:Type} {enc:TypeId×Value->H} {P:Program}
def Qm7 {f:Func} {s:ChangeSpec} {apart fresh handsOn again:Bool} {W W':World} {args:Array Value} {v:Value} {ds gs:List (DataW H)} {before pa pv:List MemPlace}
  (hW:DataW.Whole enc P f.params.toList s.vars apart W args.toList ds gs before)
  (hres:∀ (b:Nat) (sp:Nat->Bool) (hd:Bool),DataW.TrodAll enc P W' b sp hd f.resultTypes.toList (v.resultList f.resultTypes.size) (s.fn H (ds++gs)).results [])
  (hargs:∀ sp:Nat->Bool,(∀ p∈before,sp p.block=true)->DataW.TrodAll enc P W' 0 sp true f.params.toList args.toList (s.fn H (ds++gs)).args pa)
  (hvars:∀ sp:Nat->Bool,(∀ p∈before,sp p.block=true)->DataW.TrodVars enc P W' sp s.vars (s.fn H (ds++gs)).vars pv)
  (hps:before=pa++pv) (hb:Below W.heap.size W W')
  (hok:∀ (j:Nat) (t:TypeId) (r:Value),f.resultTypes[j]? = some t->(v.resultList f.resultTypes.size)[j]? = some r->Value.okWide P W' .any 0 t r) :
  s.post enc P f apart fresh handsOn again W args v W':=by
 have hlt:∀ p∈before,p.block<W.heap.size:=fun p hp=>hW.lt p hp
 have hold:∀ p∈before,(fun b=>decide (b<W.heap.size)) p.block=true:=fun p hp=>by simp_all
 refine ⟨ds,gs,before,[],pa,pv,hW,hres _ _ _,hargs _ hold,hvars _ hold,World.keptBut_mono (fun p hp=>⟨hp,?_⟩) (hb.frame (· ∈ before)),fun _=>?_⟩
 ·simp_all
 ·obtain ⟨_,_,_,_,_,hz,hn⟩:=hW;refine ⟨hok,_,_,([]++pa)++pv,⟨[]++pa,pv,trodAll_append (hargs _ (fun _ _=>rfl)) (hres _ _ _),hvars _ (fun _ _=>rfl),rfl,?_,?_⟩,?_⟩
  ·intro b off hp
   have hin:MemPlace.cell b off∈before:=by simp_all
   rw [hb.frozen (hlt _ hin)];exact hz b off hin
  ·simp_all
  simp_all

def Qai (P:Program) (t:TypeId) (x:PV):Prop:=match P.underlying t with
 | some (.struct _)=>∃ ps,Sh P t ps∧x = .agg ps
 | some (.array _ _)=>∃ ps,Sh P t ps∧x = .agg ps
 | _=>Sh P t [x]
def Qr2 (P:Program):List TypeId->List PV->Prop
 | [],[]=>True
 | t::ts,x::xs=>Qai P t x∧Qr2 P ts xs
 | _,_=>False

def Z6e {T:List TypeId} (hT:Qfw P T=true) {w:World} {b0:Nat} {r:Reach} {sp:Nat->Bool} {held:Bool} {t:TypeId} (ht:t∈T) {v:Value} {d:DataW H} {p:List MemPlace} (hval:Value.okWide P w r b0 t v) (h:DataW.Trod enc P w 0 sp held t v d p) :
  ∃ x,Qai P t x∧RelP (fun _=>True) w x v:=by
 obtain ⟨n,hn⟩:=h;obtain ⟨ps,h1,h2⟩:=got hT n t _ _ ht hn;have hp:=Ln.1 hT t ht
 have one:(∀ cs,v ≠ .agg cs)->(match P.underlying t with | some (.struct _)=>False | some (.array _ _)=>False | _=>True)->∃ x,Qai P t x∧RelP (fun _=>True) w x v:=by
  intro hv hu
  have hc:v.cells.toList = [v]:=by cases v<;>first | rfl | (exact absurd rfl (hv _))
  rw [hc] at h2;obtain ⟨l1,_,l3⟩:=h2
  match ps,l1 with
  | [x],_=>
   refine ⟨x,?_,by simpa using l3 0 x rfl⟩
   grind [Qai]
 have ag:∀ cs,v = .agg cs->(match P.underlying t with | some (.struct _)=>True | some (.array _ _)=>True | _=>False)->∃ x,Qai P t x∧RelP (fun _=>True) w x v:=by
  intro cs hv hu;subst hv;refine ⟨.agg ps,?_,.agg ps cs (by simpa [Value.cells] using h2.1) (by simpa [Value.cells] using h2.2.1) (fun i x hx=>by rw [Q5k];simpa [Value.cells] using h2.2.2 i x hx)⟩;unfold Qai;split
  ·simp_all
  ·simp_all
  simp_all
 unfold Value.okWide at hval;split at hval
 ·grind
 ·grind
 ·rename_i hu1 hu2;refine one (fun cs hv=>?_) ?_<;>simp_all [Cell.okWide,Cell.ok]

def Qsz {T:List TypeId} (hT:Qfw P T=true) {w:World} {b0:Nat} {r:Reach} {sp:Nat->Bool} {held:Bool}:∀ (ts:List TypeId) (vs:List Value) (ds:List (DataW H)) (p:List MemPlace),(∀ t∈ts,t∈T) ->
  (∀ (j:Nat) t v,ts[j]? = some t->vs[j]? = some v->Value.okWide P w r b0 t v)->DataW.TrodAll enc P w 0 sp held ts vs ds p ->
  ∃ xs,Qr2 P ts xs∧xs.length=vs.length∧ds.length=ts.length∧∀ (i:Nat) x,xs[i]? = some x->RelP (fun _=>True) w x (vs.getD i Qr)
 | [],[],[],_,_,_,_=>⟨[],trivial,rfl,rfl,fun i x h=>by simp_all⟩
 | t::ts,v::vs,d::ds,_,hin,hval,⟨p,q,h1,h2,_⟩=>by
  obtain ⟨x,x1,x2⟩:=Z6e hT (hin t (by simp)) (hval 0 t v rfl rfl) h1;obtain ⟨xs,y1,y2,y3,y4⟩:=Qsz hT ts vs ds q (fun t ht=>hin t (by simp_all)) (fun j t v hj hv=>hval (j+1) t v (by simp_all) (by simp_all)) h2;refine ⟨x::xs,⟨x1,y1⟩,by simp_all,by simp_all,fun i y hy=>?_⟩
  grind
 | [],_::_,_,_,_,_,h=> cc
 | _::_,[],_,_,_,_,h=> cc
 | [],[],_::_,_,_,_,h=> cc
 | _::_,_::_,[],_,_,_,h=> cc

def Qdf (hl:laidOutB P=true) {W W':World} {sp':Nat->Bool}:∀ (ts:List TypeId) (vs:List Value) (ds:List (DataW H)) (ps:List MemPlace),(∀ t∈ts,P.readableRec t=true∧t<P.types.size) ->
  DataW.TrodAll enc P W 0 (fun _=>true) true ts vs ds ps->(∀ p∈ps,W.sameAt W' p)->(∀ p∈ps,sp' p.block=true)->DataW.TrodAll enc P W' 0 sp' true ts vs ds ps
 | [],[],[],_,_,h,_,_=>h
 | t::ts,v::vs,d::ds,_,hin,⟨p,q,h1,h2,rfl⟩,h3,h4=>
  ⟨p,q,WideElems.Trod_stays hl (hin t (by simp)).1 (hin t (by simp)).2 h1 (fun x hx=>h3 x (by simp_all)) (fun x hx=>h4 x (by simp_all)),
   Qdf hl ts vs ds q (fun t ht=>hin t (by simp_all)) h2 (fun x hx=>h3 x (by simp_all)) (fun x hx=>h4 x (by simp_all)),rfl⟩
 | [],_::_,_,_,_,h,_,_=> cc
 | _::_,[],_,_,_,h,_,_=> cc
 | [],[],_::_,_,_,h,_,_=> cc
 | _::_,_::_,[],_,_,h,_,_=> cc

def Qoy {Gl:Nat->Option (List PV)} {f:FuncId} {fn:Func} {T:List TypeId} {s:ChangeSpec} {tb:TypeId} {laid:List (String×DataW Unit)}
  (hT:Qfw P T=true) (hl:laidOutB P=true) (hin:∀ t∈fn.params.toList,t∈T∧P.readableRec t=true∧t<P.types.size)
  (hres:fn.resultTypes = #[tb]) (htb:P.underlying tb=some .bool) (hvars:s.vars = []) (hfn:∀ (H:Type) (ds:List (DataW H)),ds.length=fn.params.toList.length->s.fn H ds = { results := [.lit (.bool true)],args:=ds })
  (hG:∀ W,laidMetH P laid W->GlobOK Gl ⟨fun _=>none,fun _=>False⟩ [] W)
  (hp:∀ xs,Qr2 P fn.params.toList xs->Qcp P Gl f xs (.bool true))
  (W:World) (base:Nat) (args:Array Value) (ds gs:List (DataW H)) (before:List MemPlace) {apart fresh handsOn again:Bool}
  (hval:∀ (j:Nat) t v,fn.params[j]? = some t->args[j]? = some v->Value.okWide P W .any base t v)
  (hW:DataW.Whole enc P fn.params.toList s.vars apart W args.toList ds gs before) (hL:laidMetH P laid W) :
  Calls P f args W fun e W'=>∃ v,e = .returned v∧s.post enc P fn apart fresh handsOn again W args v W':=by
 have hW0:=hW;obtain ⟨p,q,hA,hV,rfl,_,_⟩:=hW;obtain ⟨xs,h1,h2,h3,h4⟩:=Qsz hT fn.params.toList args.toList ds p (fun t ht=>(hin t ht).1) (fun j t v hj hv=>hval j t v (by simp_all) (by simp_all)) hA
 have hgs:gs = []∧q = []:=by grind [DataW.TrodVars]
 obtain ⟨rfl,rfl⟩:=hgs;refine ((hp xs h1).2 (fun _=>False) W args (fun c h=>h.elim) (by simp_all) (fun i x hx=>?_) (hG W hL)).mono ?_
 ·simp_all
 rintro e W' ⟨cr,rfl,hr,hb⟩
 cases hr;refine ⟨_,rfl,Qm7 (pa:=p) (pv := []) hW0 (fun b sp hd=>?_) (fun sp hsp=>?_) (fun sp hsp=>?_) rfl hb (fun j t r hj hr=>?_)⟩
 ·rw [hfn H _ (by simp_all),hres];simp only [Value.resultList];exact trodAll_cons_mk (shut_bool htb _) trodAll_mk0
 ·rw [hfn H _ (by simp_all)];simp only [Na] at hsp ⊢;exact Qdf hl _ _ _ _ (fun t ht=>(hin t ht).2) hA (fun x hx=>hb.same (hW0.lt x (by simp_all))) hsp
 ·rw [hfn H _ (by simp_all),hvars];rfl
 grind [Value.resultList,okWide_bool_mk]
end
end
end Go.Av
namespace Go.Av
noncomputable section
set_option maxHeartbeats 4000000
open Go.RowKit Go.WideShapes Go.ChangeShapes
section
variable {P:Program} {w:World} {T:List TypeId} {enc:TypeId×Value->Unit} {sp:Nat->Bool} {held:Bool}

def Qhg {n:Nat} {cs:List Value} {m:Nat} (ih:∀ (t:TypeId) (cs:List Value) (d:DataW Unit) (p:List MemPlace) (ps:List PV),t∈T->DataW.trod enc P w 0 sp held n t cs=some (d,p)->Qey d=some ps->RelCs w ps cs) (hm:cs.length=m) :
  ∀ (fs:List Field) (k:Nat) (xs:List (DataW Unit×List MemPlace)) (ps:List PV),Qih P fs k m=true->(∀ f∈fs,f.type∈T) ->
  (fs.mapM fun f=>DataW.trod enc P w 0 sp held n f.type ((cs.drop f.offset).take (P.cellsOf f.type)))=some xs->Qfi (xs.map (·.1))=some ps->RelCs w ps (cs.drop k)
 | [],k,xs,ps,ht,_,hx,hp=>by
  simp only [Qih,Aj] at ht;subst ht;simp only [List.mapM_nil,Nr,Lb] at hx;subst hx;simp only [Bk,Qfi,Lb] at hp;subst hp;exact fM
 | f::fs,k,xs,ps,ht,hT,hx,hp=>by
  simp only [Qih,Le,Aj] at ht;obtain ⟨ht1,ht2⟩:=ht;simp only [Bq,Nz,Ls,Nr,Lb] at hx;obtain ⟨y,hy,ys,hys,rfl⟩:=hx;simp only [Mv,Qfi] at hp;split at hp
  ·rename_i p1 p2 e1 e2;cases hp;have h1:=ih f.type _ y.1 y.2 p1 (hT f (by simp)) hy e1;have h2:=Qhg ih hm fs (k+P.cellsOf f.type) ys p2 ht2 (fun g hg=>hT g (by simp_all)) hys e2;rw [ht1] at h1
   have e:cs.drop k=(cs.drop k).take (P.cellsOf f.type)++cs.drop (k+P.cellsOf f.type):=iq
   rw [e];exact h1.append h2
  simp_all
def Qkc {n:Nat} {cs:List Value} {e:TypeId} (ih:∀ (t:TypeId) (cs:List Value) (d:DataW Unit) (p:List MemPlace) (ps:List PV),t∈T->DataW.trod enc P w 0 sp held n t cs=some (d,p)->Qey d=some ps->RelCs w ps cs) (he:e∈T) :
  ∀ (m k:Nat) (xs:List (DataW Unit×List MemPlace)) (ps:List PV),(k+m) * P.cellsOf e=cs.length ->
  ((List.range' k m).mapM fun i=>DataW.trod enc P w 0 sp held n e ((cs.drop (i * P.cellsOf e)).take (P.cellsOf e)))=some xs->Qfi (xs.map (·.1))=some ps->RelCs w ps (cs.drop (k * P.cellsOf e))
 | 0,k,xs,ps,hk,hx,hp=>by
  simp only [List.range'_zero,List.mapM_nil,Nr,Lb] at hx;subst hx;simp only [Bk,Qfi,Lb] at hp;subst hp;simp at hk;exact fM
 | m+1,k,xs,ps,hk,hx,hp=>by
  simp only [List.range'_succ,Bq,Nz,Ls,Nr,Lb] at hx;obtain ⟨y,hy,ys,hys,rfl⟩:=hx;simp only [Mv,Qfi] at hp;split at hp
  ·rename_i p1 p2 e1 e2;cases hp;have h1:=ih e _ y.1 y.2 p1 he hy e1;have h2:=Qkc ih he m (k+1) ys p2 (by grind) hys e2
   have e:cs.drop (k * P.cellsOf e)=(cs.drop (k * P.cellsOf e)).take (P.cellsOf e)++cs.drop ((k+1) * P.cellsOf e):=gg
   rw [e];exact h1.append h2
  simp_all

def Qt3 (hT:Qfw P T=true):∀ (n:Nat) (t:TypeId) (cs:List Value) (d:DataW Unit) (p:List MemPlace) (ps:List PV),t∈T->DataW.trod enc P w 0 sp held n t cs=some (d,p)->Qey d=some ps->RelCs w ps cs
 | 0,t,cs,d,p,ps,_,h,_=>by simp [DataW.trod] at h
 | n+1,t,cs,d,p,ps,ht,h,hf=>by
  have ih:=Qt3 hT n;have hp:=Ln.1 hT t ht;split at hp
  ·rename_i hu;obtain ⟨b,rfl,hx⟩:=DataW.trod_bool hu h;simp only [Lg] at hx;rw [hx.1] at hf;simp only [Qey,Lb] at hf;subst hf;exact .one (.bool b) rfl
  ·rename_i k hu;obtain ⟨z,rfl,hx,_⟩:=DataW.trod_int hu h;simp only [Lg] at hx;rw [hx.1] at hf;simp only [Qey,Lb] at hf;subst hf;exact .one (.int k z) rfl
  ·rename_i hu;simp only [DataW.trod,hu] at h
   split at h<;>rename_i h0<;>first | (cases h0;done) | skip
   all_goals try (simp at h0;done)
   all_goals try (cases h;done)
   ·split at h
    ·simp only [Lb,Lg] at h;rw [← h.1] at hf;simp only [Qey,Lb] at hf;subst hf;exact .one (.str _) rfl
    simp_all
  ·rename_i e hu;simp only [DataW.trod,hu] at h
   grind [Qey,Option.bind_eq_some_iff,Option.map_eq_some_iff]
  ·rename_i fs hu;simp only [Le] at hp;obtain ⟨ht1,ht2⟩:=hp;simp only [DataW.trod,hu] at h;split at h
   ·rename_i hl;rw [Mo] at h;obtain ⟨xs,hx,h3⟩:=h;simp only [Lg] at h3;rw [← h3.1] at hf;simp only [Qey] at hf;have:=Qhg ih hl fs.toList 0 xs ps ht1 (fun f hf=>by grind) hx hf
    simp_all
   simp_all
  ·rename_i m e hu;simp only [Le,Aj,Nv] at hp;obtain ⟨he,hsz⟩:=hp;simp only [DataW.trod,hu] at h;split at h
   ·rename_i hl;rw [Mo] at h;obtain ⟨xs,hx,h3⟩:=h;simp only [Lg] at h3;rw [← h3.1] at hf;simp only [Qey] at hf;have:=Qkc ih he m 0 xs ps (by rw [Mi,hsz,hl]) (by simp_all [List.range_eq_range']) hf
    simp_all
   simp_all
  simp_all

def Qph (hT:Qfw P T=true):∀ (laid:List (String×DataW Unit)) (ps:List MemPlace),DataW.LaidVars P w laid ps->∀ nm d g t cs,(nm,d)∈laid->P.globalNamed nm=some g->(P.globals[g]?).map (·.type)=some t->t∈T->Qey d=some cs ->
  g<w.heap.size∧∃ vs:List Value,(vs.length=cs.length∧∃ t fz,w.heap[g]? = some (.cells vs.toArray t fz))∧(∀ c∈vs,c.oneCell'=true)∧∀ (j:Nat) x,cs[j]? = some x->w.cell? ⟨g,j,none⟩=some (vs.getD j Qr)∧RelP (fun _=>True) w x (vs.getD j Qr)
 | [],_,_,_,_,_,_,_,h,_,_,_,_=>by cases h
 | (n1,d1)::laid,ps,h,nm,d,g,t,cs,hmem,hg,ht,hTt,hf=>by
  obtain ⟨g',t',vs,fuel,p,q,hg',ht',hvar,hd,hrest,_⟩:=h
  rcases Lx.1 hmem with h | h
  ·simp only [Lg] at h;obtain ⟨e1,e2⟩:=h;rw [← e1] at hg' hvar;rw [← e2] at hd;obtain rfl:=Am (hg.symm.trans hg');obtain rfl:=Am (ht.symm.trans ht');have hr:=Qt3 hT fuel t vs.toList d p cs hTt hd hf
   have hh:∃ t fz,w.heap[g]? = some (.cells vs t fz):=by grind [World.var?]
   refine ⟨?_,vs.toList,⟨hr.1,hh⟩,hr.2.1,fun j x hj=>⟨?_,hr.2.2 j x hj⟩⟩
   ·grind
   rw [World.var?_cell hg hvar]
   have hlt:j<vs.toList.length:=by rw [hr.1];exact (Ld.1 hj).1
   simp_all
  ·exact Qph hT laid q hrest nm d g t cs h hg ht hTt hf

def Qol (hT:Qfw P T=true) {Gl:Nat->Option (List PV)} {laid:List (String×DataW Unit)}
  (hGl:∀ g cs,Gl g=some cs->∃ nm d t,(nm,d)∈laid∧P.globalNamed nm=some g∧(P.globals[g]?).map (·.type)=some t∧t∈T∧Qey d=some cs) {W:World} (h:laidMet P laid W) :
  GlobOK Gl ⟨fun _=>none,fun _=>False⟩ [] W:=by
 intro g cs hg;obtain ⟨nm,d,t,h1,h2,h3,h4,h5⟩:=hGl g cs hg;obtain ⟨ps,hps,_⟩:=h;obtain ⟨q1,vs,q2,q3,q4⟩:=Qph hT laid ps hps nm d g t cs h1 h2 h3 h4 h5;exact ⟨q1,⟨fun h=>h,fun a o l h=>by simp⟩,vs,q2,q3,fun j x hj=>⟨(q4 j x hj).1,(q4 j x hj).2.mono (fun c _ _=>⟨⟨fun h=>h,fun a o l h=>by simp⟩,rfl⟩)⟩⟩
end
end
end Go.Av
namespace Go.Av
noncomputable section
set_option maxHeartbeats 4000000
section
variable {P:Program}
def Z5d {t:TypeId} {k:IntKind} {x:PV} (hu:P.underlying t=some (.int k)) (h:Qai P t x):∃ n,x = .int k n∧k.min≤n∧n≤k.max:=ja
def Qyp {t:TypeId} {x:PV} (hu:P.underlying t=some .string) (h:Qai P t x):∃ s,x = .str s∧s.length≤maxLen:=ja
end
end
end Go.Av
