/- Part of FromsnNames: the law returns true; no condition. -/
import Derived.Test.YtfgpphgmjcnleaaGreatDoorAvCtr
import Derived.WalkKit
import Derived.ProofKit
import Derived.OpenShut
import Derived.Deep.DeepHandedRow
import Derived.Lib.LaidTab
import Derived.WideKeyArgs
import Derived.SevenTiedAt
import Derived.Below
import Derived.ChangeSame
set_option linter.all false
namespace Go.Av
noncomputable section
section
variable {P:Program}

inductive Sh (P:Program):TypeId->List PV->Prop
 | bool (t:TypeId) (h:P.underlying t=some .bool) (b:Bool):Sh P t [.bool b]
 | int (t:TypeId) (k:IntKind) (n:Int) (h:P.underlying t=some (.int k)) (h1:k.min≤n) (h2:n≤k.max):Sh P t [.int k n]
 | str (t:TypeId) (s:List UInt8) (h:P.underlying t=some .string) (hl:s.length≤maxLen):Sh P t [.str s]
 | slice (t e:TypeId) (rows:List (List PV)) (h:P.underlying t=some (.slice e)) (hl:rows.length≤maxLen) (hr:∀ r∈rows,r.length=P.cellsOf e) (hs:∀ r∈rows,Sh P e r):Sh P t [.slice (P.cellsOf e) rows]
 | struct (t:TypeId) (fs:Array Field) (cells:List PV) (h:P.underlying t=some (.struct fs)) (hn:cells.length=P.cellsOf t)
   (hf:∀ f∈fs.toList,Sh P f.type ((cells.drop f.offset).take (P.cellsOf f.type))):Sh P t cells
 | array (t e:TypeId) (n:Nat) (cells:List PV) (h:P.underlying t=some (.array n e)) (hn:cells.length=P.cellsOf t)
   (hf:∀ i,i<n->Sh P e ((cells.drop (i * P.cellsOf e)).take (P.cellsOf e))):Sh P t cells

def Qan (P:Program):List Field->Nat->Nat->Bool
 | [],n,m=>n == m
 | f::r,n,m=>f.offset == n&&Qan P r (n+P.cellsOf f.type) m
def Q7z (P:Program) (T:List TypeId):Bool:=T.all fun t=>match P.underlying t with
 | some .bool=>true
 | some (.int _)=>true
 | some .string=>true
 | some (.slice e)=>T.contains e&&decide (0<P.cellsOf e)
 | some (.struct fs)=>Qan P fs.toList 0 (P.cellsOf t)&&fs.toList.all fun f=>T.contains f.type
 | some (.array n e)=>T.contains e&&n * P.cellsOf e == P.cellsOf t
 | _=>false

mutual
def Q6z:DataW Unit->Option (List PV)
 | .lit (.int k n)=>some [.int k n]
 | .lit (.bool b)=>some [.bool b]
 | .lit (.string s)=>some [.str s]
 | .agg ds=>Q8b ds
 | _=>none
def Q8b:List (DataW Unit)->Option (List PV)
 | []=>some []
 | d::ds=>match Q6z d,Q8b ds with
  | some x,some y=>some (x++y)
  | _,_=>none
end

def RelCs (w:World) (ps:List PV) (cs:List Value):Prop:=
 cs.length=ps.length∧(∀ c∈cs,c.oneCell'=true)∧∀ (i:Nat) x,ps[i]? = some x->RelP (fun _=>True) w x (cs.getD i Qc)
theorem RelCs.one {w:World} {x:PV} {v:Value} (h:RelP (fun _=>True) w x v) (h1:v.oneCell'=true):RelCs w [x] [v]:=
 ⟨rfl,fun c hc=>by simp at hc;subst hc;exact h1,fun i y hy=>by
  cases i with
  | zero=>simp at hy;subst hy;exact h
  | succ i=>simp at hy⟩
theorem RelCs.append {w:World} {ps qs:List PV} {cs ds:List Value} (h:RelCs w ps cs) (k:RelCs w qs ds):RelCs w (ps++qs) (cs++ds):=by
 refine ⟨by simp [h.1,k.1],fun c hc=>?_,fun i x hx=>?_⟩
 ·rcases Ma.1 hc with hc | hc
  ·exact h.2.1 c hc
  exact k.2.1 c hc
 ·rw [Qd5,h.1]
  by_cases hi:i<ps.length
  ·rw [Lh hi] at hx;rw [Af hi];exact h.2.2 i x hx
  ·rw [Lm (by omega)] at hx;rw [Ae hi];exact k.2.2 _ x hx

theorem Qcn {w:World} {base:Nat} {a:Addr} {n:Nat} {cs:List Value} (h:w.cells? base a n=some cs):cs.length=n∧∀ i,i<n->∃ v,w.cell? (a.add i)=some v∧cs[i]? = some v:=by
 unfold World.cells? at h;split at h
 ·refine ⟨by simpa using Lib.mapM_length h,fun i hi=>?_⟩;obtain ⟨v,h1,h2⟩:=Lib.mapM_at h i i (by simp [hi]);exact ⟨v,h2,h1⟩
 ·cases h

section
variable {H:Type} {enc:TypeId×Value->H} {w:World} {sp:Nat->Bool} {held:Bool} {T:List TypeId}

theorem Qbs {n:Nat} {cs:List Value} {m:Nat} (ih:∀ (t:TypeId) (cs:List Value) (x:DataW H×List MemPlace),t∈T->DataW.trod enc P w 0 sp held n t cs=some x->∃ ps,Sh P t ps∧RelCs w ps cs) (hm:cs.length=m) :
  ∀ (fs:List Field) (k:Nat) (xs:List (DataW H×List MemPlace)),Qan P fs k m=true->(∀ f∈fs,f.type∈T)->k≤m ->
  (fs.mapM fun f=>DataW.trod enc P w 0 sp held n f.type ((cs.drop f.offset).take (P.cellsOf f.type)))=some xs ->
  ∃ ps,ps.length=m - k∧(∀ f∈fs,k≤f.offset∧Sh P f.type ((ps.drop (f.offset - k)).take (P.cellsOf f.type)))∧RelCs w ps (cs.drop k)
 | [],k,xs,ht,_,hk,hx=>by
  simp only [Qan,Aj] at ht;subst ht;exact ⟨[],by simp,(fun f hf=>(by cases hf)),by rw [Nr (by omega)];exact ⟨rfl,(fun c hc=>(by cases hc)),fun i x hx=>by simp at hx⟩⟩
 | f::fs,k,xs,ht,hT,hk,hx=>by
  simp only [Qan,Lb,Aj] at ht;obtain ⟨ht1,ht2⟩:=ht;simp only [Bg,Bn,Lx,Bb,Ld] at hx;obtain ⟨y,hy,ys,hys,rfl⟩:=hx;obtain ⟨ps,h1,h2⟩:=ih f.type _ y (hT f (by simp)) hy;rw [ht1] at h2
  have tl:∀ (fs:List Field) (k:Nat),Qan P fs k m=true->k≤m:=by
   intro fs
   induction fs with
   | nil=>intro k h;simp [Qan] at h;omega
   | cons g gs ih=>intro k h;simp only [Qan,Lb,Aj] at h;have:=ih _ h.2;omega
  have hk2:=tl _ _ ht2;obtain ⟨qs,q1,q2,q3⟩:=Qbs ih hm fs (k+P.cellsOf f.type) ys ht2 (fun g hg=>hT g (by simp [hg])) hk2 hys
  have hl:ps.length=P.cellsOf f.type:=by have:=h2.1;simp at this;omega
  refine ⟨ps++qs,by simp [hl,q1];omega,fun g hg=>?_,?_⟩
  ·rcases Mp.1 hg with rfl | hg
   ·refine ⟨by omega,?_⟩;rw [ht1,Bw,Bh,Nb (by omega),Mt (by omega)];exact h1
   obtain ⟨g1,g2⟩:=q2 g hg;refine ⟨by omega,?_⟩
   have e:g.offset - k=ps.length+(g.offset - (k+P.cellsOf f.type)):=by omega
   rw [e,← Nm,Br];exact g2
  ·have e:cs.drop k=(cs.drop k).take (P.cellsOf f.type)++cs.drop (k+P.cellsOf f.type):=by
    rw [← Nm,Ml]
   rw [e];exact h2.append q3

theorem Q9i {n:Nat} {e:TypeId} (ih:∀ (t:TypeId) (cs:List Value) (x:DataW H×List MemPlace),t∈T->DataW.trod enc P w 0 sp held n t cs=some x->∃ ps,Sh P t ps∧RelCs w ps cs) (he:e∈T) (seg:Nat->Option (List Value)) :
  ∀ (is:List Nat) (xs:List (DataW H×List MemPlace)),(is.mapM fun i=>(seg i).bind (DataW.trod enc P w 0 sp held n e))=some xs ->
  ∃ rows:List (List PV),rows.length=is.length∧(∀ r∈rows,Sh P e r)∧∀ (j:Nat) i,is[j]? = some i->∃ cs,seg i=some cs∧RelCs w (rows.getD j []) cs
 | [],xs,h=>⟨[],rfl,(fun r hr=>(by cases hr)),fun j i h=>by simp at h⟩
 | i::is,xs,h=>by
  simp only [Bg,Bn,Lx,Bb,Ld] at h;obtain ⟨y,⟨cs,hc,hy⟩,ys,hys,rfl⟩:=h;obtain ⟨ps,h1,h2⟩:=ih e cs y he hy;obtain ⟨rows,q1,q2,q3⟩:=Q9i ih he seg is ys hys;refine ⟨ps::rows,by simp [q1],fun r hr=>?_,fun j i' hj=>?_⟩
  ·rcases Mp.1 hr with rfl | hr
   ·exact h1
   exact q2 r hr
  ·cases j with
   | zero=>simp at hj;subst hj;exact ⟨cs,hc,by simpa using h2⟩
   | succ j=>simpa using q3 j i' (by simpa using hj)

theorem got (hT:Q7z P T=true):∀ (n:Nat) (t:TypeId) (cs:List Value) (x:DataW H×List MemPlace),t∈T->DataW.trod enc P w 0 sp held n t cs=some x->∃ ps,Sh P t ps∧RelCs w ps cs
 | 0,t,cs,x,_,h=>by simp [DataW.trod] at h
 | n+1,t,cs,x,ht,h=>by
  have ih:=got hT n;have hp:=Lp.1 hT t ht;split at hp
  ·rename_i hu;obtain ⟨b,rfl,_⟩:=DataW.trod_bool hu h;exact ⟨[.bool b],.bool t hu b,.one (.bool b) rfl⟩
  ·rename_i k hu;simp only [DataW.trod,hu] at h
   split at h<;>rename_i h0<;>first | (cases h0;done) | skip
   all_goals try (simp at h0;done)
   all_goals try (cases h;done)
   ·simp only [Ld] at h0;cases h0;split at h
    ·rename_i hw;obtain ⟨rfl,hw⟩:=hw;simp only [Lit.wf,Lb,Ag] at hw;exact ⟨_,.int t _ _ hu hw.1 hw.2,.one (.int _ _) rfl⟩
    cases h
  ·rename_i hu;simp only [DataW.trod,hu] at h
   split at h<;>rename_i h0<;>first | (cases h0;done) | skip
   all_goals try (simp at h0;done)
   all_goals try (cases h;done)
   ·split at h
    ·rename_i s hw;exact ⟨[.str s.data.toList],.str t _ hu (by simpa using hw),.one (.str _) rfl⟩
    cases h
  ·rename_i e hu;simp only [Lb,Ag,Nn] at hp;obtain ⟨he,hpos⟩:=hp;simp only [DataW.trod,hu] at h
   split at h<;>rename_i h0<;>first | (cases h0;done) | skip
   all_goals try (simp at h0;done)
   all_goals try (cases h;done)
   ·exact ⟨[.slice (P.cellsOf e) []],.slice t e [] hu (by simp) (fun r hr=>(by cases hr)) (fun r hr=>(by cases hr)),.one (.sliceE _ none 0 (fun _=>rfl)) rfl⟩
   simp only [Ld,TypeDesc.slice.injEq] at h0;subst h0;rename_i a len cap;split at h
   ·rename_i hb;obtain ⟨elems,hel,_⟩:=Lx.1 h;obtain ⟨rows,r1,r2,r3⟩:=Q9i ih he (fun i=>w.cells? 0 (a.add (i * P.cellsOf e)) (P.cellsOf e)) _ _ hel;simp at r1
    have hrow:∀ (i:Nat) r,rows[i]? = some r->∃ cs,w.cells? 0 (a.add (i * P.cellsOf e)) (P.cellsOf e)=some cs∧RelCs w r cs:=by
     intro i r hr
     have hi:i<len:=by have:=(La.1 hr).1;omega
     obtain ⟨cs,c1,c2⟩:=r3 i i (by simp [hi]);rw [Le,hr] at c2;exact ⟨cs,c1,c2⟩
    have hlen:∀ r∈rows,r.length=P.cellsOf e:=by
     intro r hr;obtain ⟨i,hi⟩:=List.getElem?_of_mem hr;obtain ⟨cs,c1,c2⟩:=hrow i r hi;have:=(Qcn c1).1;have:=c2.1;omega
    refine ⟨[.slice (P.cellsOf e) rows],.slice t e rows hu (by omega) hlen r2,.one ?_ rfl⟩
    cases hrows:rows with
    | nil=>
     rw [hrows] at r1;simp at r1;subst r1;exact .sliceE _ _ _ (fun h=>by cases h)
    | cons r0 rs=>
     have hl0:len=(r0::rs).length:=by rw [← hrows];omega
     have hspot:a.spot=none:=by
      obtain ⟨cs,c1,c2⟩:=hrow 0 r0 (by rw [hrows];rfl);obtain ⟨v,v1,_⟩:=(Qcn c1).2 0 hpos;simp only [Co] at v1
      have e0:(a.add 0).add 0=a:=by simp [Addr.add]
      rw [e0] at v1;exact World.cell?_spot v1
     obtain ⟨blk,off,spot⟩:=a
     simp only at hspot
     subst hspot
     have hadd:∀ i j,((⟨blk,off,none⟩:Addr).add i).add j=⟨blk,off+(i+j),none⟩:=by
      intro i j;unfold Addr.add
      by_cases hi:i=0<;>by_cases hj:j=0<;>simp [hi,hj,Nat.add_assoc]
     have hcell:∀ (i:Nat) (r:List PV),(r0::rs)[i]? = some r->∀ (j:Nat) x,r[j]? = some x->∃ v,w.cell? ⟨blk,off+(i * P.cellsOf e+j),none⟩=some v∧v.oneCell'=true∧RelP (fun _=>True) w x v:=by
      intro i r hi j x hj;rw [← hrows] at hi;obtain ⟨cs,c1,c2⟩:=hrow i r hi
      have hjl:j<P.cellsOf e:=by rw [← hlen r (Mk hi)];exact (La.1 hj).1
      obtain ⟨v,v1,v2⟩:=(Qcn c1).2 j hjl;rw [hadd] at v1;have:=c2.2.2 j x hj;rw [Le,v2] at this;exact ⟨v,v1,c2.2.1 v (Mk v2),this⟩
     have hval:∃ val:Nat->Nat->Value,(∀ i j,(val i j).oneCell'=true)∧∀ (i:Nat) (r:List PV),(r0::rs)[i]? = some r->∀ (j:Nat) x,r[j]? = some x->w.cell? ⟨blk,off+(i * P.cellsOf e+j),none⟩=some (val i j)∧RelP (fun _=>True) w x (val i j):=by
      refine ⟨fun i j=>match w.cell? ⟨blk,off+(i * P.cellsOf e+j),none⟩ with
       | some v=>if v.oneCell' then v else .bool true
       | none => .bool true,fun i j=>?_,fun i r hi j x hj=>?_⟩
      ·simp only
       split
       ·split
        ·assumption
        rfl
       rfl
      obtain ⟨v,v1,v2,v3⟩:=hcell i r hi j x hj;simp only [v1,v2,Ak];exact ⟨trivial,v3⟩
     obtain ⟨val,w1,w2⟩:=hval;rw [hl0];exact .slice (P.cellsOf e) (r0::rs) blk off cap val hpos (fun r hr=>hlen r (by rw [hrows];exact hr)) (by omega) trivial (fun i r hi j x hj=>(w2 i r hi j x hj).1) w1 (fun i r hi j x hj=>(w2 i r hi j x hj).2)
   cases h
  ·rename_i fs hu;simp only [Lb] at hp;obtain ⟨ht1,ht2⟩:=hp;simp only [DataW.trod,hu] at h
   skip
   ·split at h
    ·rename_i hl;rw [Mr] at h;obtain ⟨xs,hx,_⟩:=h;obtain ⟨ps,p1,p2,p3⟩:=Qbs ih hl fs.toList 0 xs ht1 (fun f hf=>by have:=Lp.1 ht2 f hf;simpa using this) (Nh _) hx;exact ⟨ps,.struct t fs ps hu (by omega) (fun f hf=>by simpa using (p2 f hf).2),by simpa using p3⟩
    cases h
  ·rename_i m e hu;simp only [Lb,Aj,Nn] at hp;obtain ⟨he,hsz⟩:=hp;simp only [DataW.trod,hu] at h
   skip
   ·split at h
    ·rename_i hl;rw [Mr] at h;obtain ⟨xs,hx,_⟩:=h;obtain ⟨rows,r1,r2,r3⟩:=Q9i ih he (fun i=>some ((cs.drop (i * P.cellsOf e)).take (P.cellsOf e))) (List.range m) xs (by simpa using hx);simp at r1
     have hrow:∀ (i:Nat) r,rows[i]? = some r->RelCs w r ((cs.drop (i * P.cellsOf e)).take (P.cellsOf e)):=by
      intro i r hr
      have hi:i<m:=by have:=(La.1 hr).1;omega
      obtain ⟨cs',c1,c2⟩:=r3 i i (by simp [hi]);cases c1;rw [Le,hr] at c2;exact c2
     have key:∀ (rows:List (List PV)) (k:Nat),(∀ (i:Nat) r,rows[i]? = some r->RelCs w r ((cs.drop ((k+i) * P.cellsOf e)).take (P.cellsOf e)))->(k+rows.length) * P.cellsOf e=cs.length ->
       RelCs w rows.flatten (cs.drop (k * P.cellsOf e))∧∀ i,i<rows.length->(rows.flatten.drop (i * P.cellsOf e)).take (P.cellsOf e)=rows.getD i []:=by
      intro rows
      induction rows with
      | nil=>intro k _ hk;simp at hk;exact ⟨by rw [Nr (by omega)];exact ⟨rfl,(fun c hc=>(by cases hc)),fun i x hx=>by simp at hx⟩,fun i hi=>by simp at hi⟩
      | cons r rs ih2=>
       intro k hr hk;simp only [Mo] at hk;have h1:=hr 0 r rfl;simp only [Nc] at h1;obtain ⟨i1,i2⟩:=ih2 (k+1) (fun i r hi=>by have:=hr (i+1) r (by simpa using hi);rwa [show k+(i+1)=k+1+i by omega] at this) (by rw [← hk];congr 1;omega)
       have hle:(k+1) * P.cellsOf e≤cs.length:=by rw [← hk];exact Ni _ (by omega)
       rw [No] at hle
       have hrl:r.length=P.cellsOf e:=by have:=h1.1;simp at this;omega
       refine ⟨?_,fun i hi=>?_⟩
       ·have e1:cs.drop (k * P.cellsOf e)=(cs.drop (k * P.cellsOf e)).take (P.cellsOf e)++cs.drop ((k+1) * P.cellsOf e):=by
         rw [No,← Nm,Ml]
        rw [e1,Nj];exact h1.append i1
       cases i with
       | zero=>simp only [Co,Bh,Nj,List.getD_cons_zero];rw [Nb (by omega),Mt (by omega)]
       | succ i=>
        simp only [Nj,List.getD_cons_succ];rw [No,Nat.add_comm,← hrl,← Nm,Br,hrl];exact i2 i (by simpa using hi)
     obtain ⟨k1,k2⟩:=key rows 0 (by simpa using hrow) (by rw [r1,Lv,hsz,hl]);simp only [Co,Bh] at k1;refine ⟨rows.flatten,.array t e m _ hu (by have:=k1.1;omega) (fun i hi=>?_),k1⟩;rw [k2 i (by omega)]
     have:i<rows.length:=by omega
     rw [Le,Lc this];exact r2 _ (Cp _)
    cases h
  cases hp
end
end
end
end Go.Av
namespace Go.Av
noncomputable section
open Go.RowKit Go.WideShapes Go.ChangeShapes
section
variable {H:Type} {enc:TypeId×Value->H} {P:Program}
theorem Qd8 {f:Func} {s:ChangeSpec} {apart fresh handsOn again:Bool} {W W':World} {args:Array Value} {v:Value} {ds gs:List (DataW H)} {before pa pv:List MemPlace}
  (hW:DataW.Whole enc P f.params.toList s.vars apart W args.toList ds gs before)
  (hres:∀ (b:Nat) (sp:Nat->Bool) (hd:Bool),DataW.TrodAll enc P W' b sp hd f.resultTypes.toList (v.resultList f.resultTypes.size) (s.fn H (ds++gs)).results [])
  (hargs:∀ sp:Nat->Bool,(∀ p∈before,sp p.block=true)->DataW.TrodAll enc P W' 0 sp true f.params.toList args.toList (s.fn H (ds++gs)).args pa)
  (hvars:∀ sp:Nat->Bool,(∀ p∈before,sp p.block=true)->DataW.TrodVars enc P W' sp s.vars (s.fn H (ds++gs)).vars pv)
  (hps:before=pa++pv) (hb:Below W.heap.size W W')
  (hok:∀ (j:Nat) (t:TypeId) (r:Value),f.resultTypes[j]? = some t->(v.resultList f.resultTypes.size)[j]? = some r->Value.okWide P W' .any 0 t r) :
  s.post enc P f apart fresh handsOn again W args v W':=by
 have hlt:∀ p∈before,p.block<W.heap.size:=fun p hp=>hW.lt p hp
 have hold:∀ p∈before,(fun b=>decide (b<W.heap.size)) p.block=true:=fun p hp=>by simpa using hlt p hp
 refine ⟨ds,gs,before,[],pa,pv,hW,hres _ _ _,hargs _ hold,hvars _ hold,World.keptBut_mono (fun p hp=>⟨hp,?_⟩) (hb.frame (· ∈ before)),fun _=>?_⟩
 ·rw [hps,Ma] at hp;exact Or.inr hp
 ·obtain ⟨_,_,_,_,_,hz,hn⟩:=hW;refine ⟨hok,_,_,([]++pa)++pv,⟨[]++pa,pv,trodAll_append (hargs _ (fun _ _=>rfl)) (hres _ _ _),hvars _ (fun _ _=>rfl),rfl,?_,?_⟩,?_⟩
  ·intro b off hp
   have hin:MemPlace.cell b off∈before:=by rw [hps];simpa using hp
   rw [hb.frozen (hlt _ hin)];exact hz b off hin
  ·intro ha;have:=hn ha;rw [hps] at this;simpa using this
  ·intro p hp _;rw [hps];simpa using hp

def Qir (P:Program) (t:TypeId) (x:PV):Prop:=match P.underlying t with
 | some (.struct _)=>∃ ps,Sh P t ps∧x = .agg ps
 | some (.array _ _)=>∃ ps,Sh P t ps∧x = .agg ps
 | _=>Sh P t [x]
def Qg7 (P:Program):List TypeId->List PV->Prop
 | [],[]=>True
 | t::ts,x::xs=>Qir P t x∧Qg7 P ts xs
 | _,_=>False

theorem Qph {T:List TypeId} (hT:Q7z P T=true) {w:World} {b0:Nat} {r:Reach} {sp:Nat->Bool} {held:Bool} {t:TypeId} (ht:t∈T) {v:Value} {d:DataW H} {p:List MemPlace} (hval:Value.okWide P w r b0 t v) (h:DataW.Trod enc P w 0 sp held t v d p) :
  ∃ x,Qir P t x∧RelP (fun _=>True) w x v:=by
 obtain ⟨n,hn⟩:=h;obtain ⟨ps,h1,h2⟩:=got hT n t _ _ ht hn;have hp:=Lp.1 hT t ht
 have one:(∀ cs,v ≠ .agg cs)->(match P.underlying t with | some (.struct _)=>False | some (.array _ _)=>False | _=>True)->∃ x,Qir P t x∧RelP (fun _=>True) w x v:=by
  intro hv hu
  have hc:v.cells.toList = [v]:=by cases v<;>first | rfl | (exact absurd rfl (hv _))
  rw [hc] at h2;obtain ⟨l1,_,l3⟩:=h2
  match ps,l1 with
  | [x],_=>
   refine ⟨x,?_,by simpa using l3 0 x rfl⟩;unfold Qir;split
   ·rename_i hh;rw [hh] at hu;exact hu.elim
   ·rename_i hh;rw [hh] at hu;exact hu.elim
   exact h1
 have ag:∀ cs,v = .agg cs->(match P.underlying t with | some (.struct _)=>True | some (.array _ _)=>True | _=>False)->∃ x,Qir P t x∧RelP (fun _=>True) w x v:=by
  intro cs hv hu;subst hv;refine ⟨.agg ps,?_,.agg ps cs (by simpa [Value.cells] using h2.1) (by simpa [Value.cells] using h2.2.1) (fun i x hx=>by rw [Zb];simpa [Value.cells] using h2.2.2 i x hx)⟩;unfold Qir;split
  ·exact ⟨ps,h1,rfl⟩
  ·exact ⟨ps,h1,rfl⟩
  rename_i n1 n2;split at hu
  ·rename_i e;exact absurd e (n1 _)
  ·rename_i e;exact absurd e (n2 _ _)
  exact hu.elim
 unfold Value.okWide at hval;split at hval
 ·rename_i hu;obtain ⟨cs,rfl,_⟩:=hval;exact ag cs rfl (by rw [hu];trivial)
 ·rename_i hu;obtain ⟨cs,rfl,_⟩:=hval;exact ag cs rfl (by rw [hu];trivial)
 ·rename_i hu1 hu2;refine one (fun cs hv=>?_) ?_
  ·subst hv;unfold Cell.okWide at hval
   split at hval<;>rename_i q1 q2<;>first | (cases q2;done) | skip
   unfold Cell.ok at hval
   split at hval<;>rename_i q1 q2<;>first | (cases q2;done) | (exact hval.elim)
  ·split
   ·rename_i hh;exact hu1 _ hh
   ·rename_i hh;exact hu2 _ _ hh
   ·trivial

theorem Qh5 {T:List TypeId} (hT:Q7z P T=true) {w:World} {b0:Nat} {r:Reach} {sp:Nat->Bool} {held:Bool}:∀ (ts:List TypeId) (vs:List Value) (ds:List (DataW H)) (p:List MemPlace),(∀ t∈ts,t∈T) ->
  (∀ (j:Nat) t v,ts[j]? = some t->vs[j]? = some v->Value.okWide P w r b0 t v)->DataW.TrodAll enc P w 0 sp held ts vs ds p ->
  ∃ xs,Qg7 P ts xs∧xs.length=vs.length∧ds.length=ts.length∧∀ (i:Nat) x,xs[i]? = some x->RelP (fun _=>True) w x (vs.getD i Qc)
 | [],[],[],_,_,_,_=>⟨[],trivial,rfl,rfl,fun i x h=>by simp at h⟩
 | t::ts,v::vs,d::ds,_,hin,hval,⟨p,q,h1,h2,_⟩=>by
  obtain ⟨x,x1,x2⟩:=Qph hT (hin t (by simp)) (hval 0 t v rfl rfl) h1;obtain ⟨xs,y1,y2,y3,y4⟩:=Qh5 hT ts vs ds q (fun t ht=>hin t (by simp [ht])) (fun j t v hj hv=>hval (j+1) t v (by simpa using hj) (by simpa using hv)) h2;refine ⟨x::xs,⟨x1,y1⟩,by simp [y2],by simp [y3],fun i y hy=>?_⟩
  cases i with
  | zero=>simp at hy;subst hy;exact x2
  | succ i=>simpa using y4 i y (by simpa using hy)
 | [],_::_,_,_,_,_,h=>by simp [DataW.TrodAll] at h
 | _::_,[],_,_,_,_,h=>by simp [DataW.TrodAll] at h
 | [],[],_::_,_,_,_,h=>by simp [DataW.TrodAll] at h
 | _::_,_::_,[],_,_,_,h=>by simp [DataW.TrodAll] at h

theorem Q68 (hl:laidOutB P=true) {W W':World} {sp':Nat->Bool}:∀ (ts:List TypeId) (vs:List Value) (ds:List (DataW H)) (ps:List MemPlace),(∀ t∈ts,P.readableRec t=true∧t<P.types.size) ->
  DataW.TrodAll enc P W 0 (fun _=>true) true ts vs ds ps->(∀ p∈ps,W.sameAt W' p)->(∀ p∈ps,sp' p.block=true)->DataW.TrodAll enc P W' 0 sp' true ts vs ds ps
 | [],[],[],_,_,h,_,_=>h
 | t::ts,v::vs,d::ds,_,hin,⟨p,q,h1,h2,rfl⟩,h3,h4=>
  ⟨p,q,WideElems.Trod_stays hl (hin t (by simp)).1 (hin t (by simp)).2 h1 (fun x hx=>h3 x (by simp [hx])) (fun x hx=>h4 x (by simp [hx])),
   Q68 hl ts vs ds q (fun t ht=>hin t (by simp [ht])) h2 (fun x hx=>h3 x (by simp [hx])) (fun x hx=>h4 x (by simp [hx])),rfl⟩
 | [],_::_,_,_,_,h,_,_=>by simp [DataW.TrodAll] at h
 | _::_,[],_,_,_,h,_,_=>by simp [DataW.TrodAll] at h
 | [],[],_::_,_,_,h,_,_=>by simp [DataW.TrodAll] at h
 | _::_,_::_,[],_,_,h,_,_=>by simp [DataW.TrodAll] at h

theorem Qff {Gl:Nat->Option (List PV)} {f:FuncId} {fn:Func} {T:List TypeId} {s:ChangeSpec} {tb:TypeId} {laid:List (String×DataW Unit)}
  (hT:Q7z P T=true) (hl:laidOutB P=true) (hin:∀ t∈fn.params.toList,t∈T∧P.readableRec t=true∧t<P.types.size)
  (hres:fn.resultTypes = #[tb]) (htb:P.underlying tb=some .bool) (hvars:s.vars = []) (hfn:∀ (H:Type) (ds:List (DataW H)),ds.length=fn.params.toList.length->s.fn H ds = { results := [.lit (.bool true)],args:=ds })
  (hG:∀ W,laidMetH P laid W->GlobOK Gl ⟨fun _=>none,fun _=>False⟩ [] W)
  (hp:∀ xs,Qg7 P fn.params.toList xs->Q5r P Gl f xs (.bool true))
  (W:World) (base:Nat) (args:Array Value) (ds gs:List (DataW H)) (before:List MemPlace) {apart fresh handsOn again:Bool}
  (hval:∀ (j:Nat) t v,fn.params[j]? = some t->args[j]? = some v->Value.okWide P W .any base t v)
  (hW:DataW.Whole enc P fn.params.toList s.vars apart W args.toList ds gs before) (hL:laidMetH P laid W) :
  Calls P f args W fun e W'=>∃ v,e = .returned v∧s.post enc P fn apart fresh handsOn again W args v W':=by
 have hW0:=hW;obtain ⟨p,q,hA,hV,rfl,_,_⟩:=hW;obtain ⟨xs,h1,h2,h3,h4⟩:=Qh5 hT fn.params.toList args.toList ds p (fun t ht=>(hin t ht).1) (fun j t v hj hv=>hval j t v (by simpa using hj) (by simpa using hv)) hA
 have hgs:gs = []∧q = []:=by
  rw [hvars] at hV
  cases gs with
  | nil=>exact ⟨rfl,hV⟩
  | cons _ _=>simp [DataW.TrodVars] at hV
 obtain ⟨rfl,rfl⟩:=hgs;refine ((hp xs h1).2 (fun _=>False) W args (fun c h=>h.elim) (by simpa using h2.symm) (fun i x hx=>?_) (hG W hL)).mono ?_
 ·rw [Zb];exact (h4 i x hx).mono (fun c _ _=>⟨fun h=>h,rfl⟩)
 rintro e W' ⟨cr,rfl,hr,hb⟩
 cases hr;refine ⟨_,rfl,Qd8 (pa:=p) (pv := []) hW0 (fun b sp hd=>?_) (fun sp hsp=>?_) (fun sp hsp=>?_) rfl hb (fun j t r hj hr=>?_)⟩
 ·rw [hfn H _ (by simpa using h3),hres];simp only [Value.resultList];exact trodAll_cons_mk (shut_bool htb _) trodAll_mk0
 ·rw [hfn H _ (by simpa using h3)];simp only [Mv] at hsp ⊢;exact Q68 hl _ _ _ _ (fun t ht=>(hin t ht).2) hA (fun x hx=>hb.same (hW0.lt x (by simpa using hx))) hsp
 ·rw [hfn H _ (by simpa using h3),hvars];rfl
 rw [hres] at hj hr;simp only [Value.resultList] at hr
 match j,hj,hr with
 | 0,hj,hr=>simp at hj hr;subst hj;subst hr;exact okWide_bool_mk htb _
 | j+1,hj,_=>simp at hj
end
end
end Go.Av
namespace Go.Av
noncomputable section
open Go.RowKit Go.WideShapes Go.ChangeShapes
section
variable {P:Program} {w:World} {T:List TypeId} {enc:TypeId×Value->Unit} {sp:Nat->Bool} {held:Bool}

theorem Q9q {n:Nat} {cs:List Value} {m:Nat} (ih:∀ (t:TypeId) (cs:List Value) (d:DataW Unit) (p:List MemPlace) (ps:List PV),t∈T->DataW.trod enc P w 0 sp held n t cs=some (d,p)->Q6z d=some ps->RelCs w ps cs) (hm:cs.length=m) :
  ∀ (fs:List Field) (k:Nat) (xs:List (DataW Unit×List MemPlace)) (ps:List PV),Qan P fs k m=true->(∀ f∈fs,f.type∈T) ->
  (fs.mapM fun f=>DataW.trod enc P w 0 sp held n f.type ((cs.drop f.offset).take (P.cellsOf f.type)))=some xs->Q8b (xs.map (·.1))=some ps->RelCs w ps (cs.drop k)
 | [],k,xs,ps,ht,_,hx,hp=>by
  simp only [Qan,Aj] at ht;subst ht;simp only [List.mapM_nil,Bb,Ld] at hx;subst hx;simp only [Bx,Q8b,Ld] at hp;subst hp;rw [Nr (by omega)];exact ⟨rfl,fun c hc=>(by cases hc),fun i x hx=>by simp at hx⟩
 | f::fs,k,xs,ps,ht,hT,hx,hp=>by
  simp only [Qan,Lb,Aj] at ht;obtain ⟨ht1,ht2⟩:=ht;simp only [Bg,Bn,Lx,Bb,Ld] at hx;obtain ⟨y,hy,ys,hys,rfl⟩:=hx;simp only [Mx,Q8b] at hp;split at hp
  ·rename_i p1 p2 e1 e2;cases hp;have h1:=ih f.type _ y.1 y.2 p1 (hT f (by simp)) hy e1;have h2:=Q9q ih hm fs (k+P.cellsOf f.type) ys p2 ht2 (fun g hg=>hT g (by simp [hg])) hys e2;rw [ht1] at h1
   have e:cs.drop k=(cs.drop k).take (P.cellsOf f.type)++cs.drop (k+P.cellsOf f.type):=by
    rw [← Nm,Ml]
   rw [e];exact h1.append h2
  cases hp
theorem Qc8 {n:Nat} {cs:List Value} {e:TypeId} (ih:∀ (t:TypeId) (cs:List Value) (d:DataW Unit) (p:List MemPlace) (ps:List PV),t∈T->DataW.trod enc P w 0 sp held n t cs=some (d,p)->Q6z d=some ps->RelCs w ps cs) (he:e∈T) :
  ∀ (m k:Nat) (xs:List (DataW Unit×List MemPlace)) (ps:List PV),(k+m) * P.cellsOf e=cs.length ->
  ((List.range' k m).mapM fun i=>DataW.trod enc P w 0 sp held n e ((cs.drop (i * P.cellsOf e)).take (P.cellsOf e)))=some xs->Q8b (xs.map (·.1))=some ps->RelCs w ps (cs.drop (k * P.cellsOf e))
 | 0,k,xs,ps,hk,hx,hp=>by
  simp only [List.range'_zero,List.mapM_nil,Bb,Ld] at hx;subst hx;simp only [Bx,Q8b,Ld] at hp;subst hp;simp at hk;rw [Nr (by omega)];exact ⟨rfl,fun c hc=>(by cases hc),fun i x hx=>by simp at hx⟩
 | m+1,k,xs,ps,hk,hx,hp=>by
  simp only [List.range'_succ,Bg,Bn,Lx,Bb,Ld] at hx;obtain ⟨y,hy,ys,hys,rfl⟩:=hx;simp only [Mx,Q8b] at hp;split at hp
  ·rename_i p1 p2 e1 e2;cases hp;have h1:=ih e _ y.1 y.2 p1 he hy e1;have h2:=Qc8 ih he m (k+1) ys p2 (by rw [← hk];congr 1;omega) hys e2
   have e:cs.drop (k * P.cellsOf e)=(cs.drop (k * P.cellsOf e)).take (P.cellsOf e)++cs.drop ((k+1) * P.cellsOf e):=by
    rw [No,← Nm,Ml]
   rw [e];exact h1.append h2
  ·cases hp

theorem Qhm (hT:Q7z P T=true):∀ (n:Nat) (t:TypeId) (cs:List Value) (d:DataW Unit) (p:List MemPlace) (ps:List PV),t∈T->DataW.trod enc P w 0 sp held n t cs=some (d,p)->Q6z d=some ps->RelCs w ps cs
 | 0,t,cs,d,p,ps,_,h,_=>by simp [DataW.trod] at h
 | n+1,t,cs,d,p,ps,ht,h,hf=>by
  have ih:=Qhm hT n;have hp:=Lp.1 hT t ht;split at hp
  ·rename_i hu;obtain ⟨b,rfl,hx⟩:=DataW.trod_bool hu h;simp only [Lf] at hx;rw [hx.1] at hf;simp only [Q6z,Ld] at hf;subst hf;exact .one (.bool b) rfl
  ·rename_i k hu;obtain ⟨z,rfl,hx,_⟩:=DataW.trod_int hu h;simp only [Lf] at hx;rw [hx.1] at hf;simp only [Q6z,Ld] at hf;subst hf;exact .one (.int k z) rfl
  ·rename_i hu;simp only [DataW.trod,hu] at h
   split at h<;>rename_i h0<;>first | (cases h0;done) | skip
   all_goals try (simp at h0;done)
   all_goals try (cases h;done)
   ·split at h
    ·simp only [Ld,Lf] at h;rw [← h.1] at hf;simp only [Q6z,Ld] at hf;subst hf;exact .one (.str _) rfl
    cases h
  ·rename_i e hu;simp only [DataW.trod,hu] at h
   split at h<;>rename_i h0<;>first | (cases h0;done) | skip
   all_goals try (simp at h0;done)
   all_goals try (cases h;done)
   ·simp only [Ld,Lf] at h;rw [← h.1] at hf;simp [Q6z] at hf
   split at h
   ·obtain ⟨elems,_,h2⟩:=Lx.1 h;rw [Mr] at h2;obtain ⟨rest,_,h3⟩:=h2;simp only [Lf] at h3;rw [← h3.1] at hf;simp [Q6z] at hf
   cases h
  ·rename_i fs hu;simp only [Lb] at hp;obtain ⟨ht1,ht2⟩:=hp;simp only [DataW.trod,hu] at h;split at h
   ·rename_i hl;rw [Mr] at h;obtain ⟨xs,hx,h3⟩:=h;simp only [Lf] at h3;rw [← h3.1] at hf;simp only [Q6z] at hf;have:=Q9q ih hl fs.toList 0 xs ps ht1 (fun f hf=>by have:=Lp.1 ht2 f hf;simpa using this) hx hf;simpa using this
   cases h
  ·rename_i m e hu;simp only [Lb,Aj,Nn] at hp;obtain ⟨he,hsz⟩:=hp;simp only [DataW.trod,hu] at h;split at h
   ·rename_i hl;rw [Mr] at h;obtain ⟨xs,hx,h3⟩:=h;simp only [Lf] at h3;rw [← h3.1] at hf;simp only [Q6z] at hf;have:=Qc8 ih he m 0 xs ps (by rw [Lv,hsz,hl]) (by rw [← List.range_eq_range'];exact hx) hf;simpa using this
   cases h
  ·cases hp

theorem Qej (hT:Q7z P T=true):∀ (laid:List (String×DataW Unit)) (ps:List MemPlace),DataW.LaidVars P w laid ps->∀ nm d g t cs,(nm,d)∈laid->P.globalNamed nm=some g->(P.globals[g]?).map (·.type)=some t->t∈T->Q6z d=some cs ->
  g<w.heap.size∧∃ vs:List Value,(vs.length=cs.length∧∃ t fz,w.heap[g]? = some (.cells vs.toArray t fz))∧(∀ c∈vs,c.oneCell'=true)∧∀ (j:Nat) x,cs[j]? = some x->w.cell? ⟨g,j,none⟩=some (vs.getD j Qc)∧RelP (fun _=>True) w x (vs.getD j Qc)
 | [],_,_,_,_,_,_,_,h,_,_,_,_=>by cases h
 | (n1,d1)::laid,ps,h,nm,d,g,t,cs,hmem,hg,ht,hTt,hf=>by
  obtain ⟨g',t',vs,fuel,p,q,hg',ht',hvar,hd,hrest,_⟩:=h
  rcases Mp.1 hmem with h | h
  ·simp only [Lf] at h;obtain ⟨e1,e2⟩:=h;rw [← e1] at hg' hvar;rw [← e2] at hd;obtain rfl:=Am (hg.symm.trans hg');obtain rfl:=Am (ht.symm.trans ht');have hr:=Qhm hT fuel t vs.toList d p cs hTt hd hf
   have hh:∃ t fz,w.heap[g]? = some (.cells vs t fz):=by
    have hvar:=hvar;simp only [World.var?,hg,Lq] at hvar;split at hvar
    ·rename_i h1;cases hvar;exact ⟨_,_,h1⟩
    cases hvar
   refine ⟨?_,vs.toList,⟨hr.1,hh⟩,hr.2.1,fun j x hj=>⟨?_,hr.2.2 j x hj⟩⟩
   ·obtain ⟨_,_,h1⟩:=hh;exact Q0t h1
   rw [World.var?_cell hg hvar]
   have hlt:j<vs.toList.length:=by rw [hr.1];exact (La.1 hj).1
   rw [Le,Lc hlt];simp at hlt ⊢
  ·exact Qej hT laid q hrest nm d g t cs h hg ht hTt hf

theorem Qef (hT:Q7z P T=true) {Gl:Nat->Option (List PV)} {laid:List (String×DataW Unit)}
  (hGl:∀ g cs,Gl g=some cs->∃ nm d t,(nm,d)∈laid∧P.globalNamed nm=some g∧(P.globals[g]?).map (·.type)=some t∧t∈T∧Q6z d=some cs) {W:World} (h:laidMet P laid W) :
  GlobOK Gl ⟨fun _=>none,fun _=>False⟩ [] W:=by
 intro g cs hg;obtain ⟨nm,d,t,h1,h2,h3,h4,h5⟩:=hGl g cs hg;obtain ⟨ps,hps,_⟩:=h;obtain ⟨q1,vs,q2,q3,q4⟩:=Qej hT laid ps hps nm d g t cs h1 h2 h3 h4 h5;exact ⟨q1,⟨fun h=>h,fun a o l h=>by simp at h⟩,vs,q2,q3,fun j x hj=>⟨(q4 j x hj).1,(q4 j x hj).2.mono (fun c _ _=>⟨⟨fun h=>h,fun a o l h=>by simp at h⟩,rfl⟩)⟩⟩
end
end
end Go.Av
namespace Go.Av
noncomputable section
section
variable {P:Program}
end
end
end Go.Av
