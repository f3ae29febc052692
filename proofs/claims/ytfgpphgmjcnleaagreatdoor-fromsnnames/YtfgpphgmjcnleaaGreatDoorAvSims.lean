/- Part of FromsnNames: the law returns true; no condition. -/
import Derived.Test.YtfgpphgmjcnleaaGreatDoorAvSim
import Derived.Test.YtfgpphgmjcnleaaGreatDoorAvStepEq
import Derived.Deep.Upon
import Derived.IntWalk
set_option linter.all false
namespace Go.Av
noncomputable section

def GlobOK (Gl:Nat->Option (List PV)) (θ:Th) (H:List AObj) (w:World):Prop:=
 ∀ g cs,Gl g=some cs->g<w.heap.size∧Qe θ H g∧∃ vs:List Value,(vs.length=cs.length∧∃ t fz,w.heap[g]? = some (.cells vs.toArray t fz))∧(∀ c∈vs,c.oneCell'=true) ∧
  ∀ (j:Nat) x,cs[j]? = some x->w.cell? ⟨g,j,none⟩=some (vs.getD j Qc)∧RelP (Qe θ H) w x (vs.getD j Qc)

def Vo (θ:Th) (H:List AObj) (w:World) (na:Nat) (v:AV) (e:Eff) (r:Result Next):Prop:=
 ∃ cv w' θ',(r = .ok (.value cv) w'∨(r = .ok .skip w'∧cv=undef))∧RelV θ' (Qe θ' (e.apply H na)) w' v cv∧Hp θ' (e.apply H na) w' ∧
  Evo θ H w θ' (e.apply H na) w'∧(∀ b,b≠na->θ' b = θ b)∧(e.new=none->θ' = θ)

section
variable {P:Program} {Gl:Nat->Option (List PV)} {θ:Th} {H:List AObj} {w:World} {a:Act} {tm:List AV} {S:Nat->Prop} {na:Nat}

theorem GlobOK.evo {θ':Th} {H':List AObj} {w':World} (h:GlobOK Gl θ H w) (e:Evo θ H w θ' H' w'):GlobOK Gl θ' H' w':=by
 intro g cs hg;obtain ⟨h1,h2,vs,h3,h4,h5⟩:=h g cs hg;obtain ⟨f1,f2⟩:=e.free g h1 h2;exact ⟨Me h1 e.size,f1,vs,⟨h3.1,h3.2.imp fun t h=>h.imp fun fz h=>f2.trans h⟩,h4,fun j x hx=>⟨by rw [Q7n f2];exact (h5 j x hx).1,e.relP (h5 j x hx).2⟩⟩

theorem Q4 {r:Result Next} {v:AV} {cv:Value} (hH:Hp θ H w) (hr:r = .ok (.value cv) w) (hv:RelV θ (Qe θ H) w v cv):Vo θ H w na v {} r:=
 ⟨cv,w,θ,.inl hr,hv,hH,.refl _ _ _,fun _ _=>rfl,fun _=>rfl⟩

theorem Q8r {r:Result Next} {v:AV} {cv:Value} {n:Nat} (hH:Hp θ H w) (hna:AlOk θ H na) (ob:Obj) (o:AObj) (l:Loc) (hb:l.blk=w.heap.size)
  (hr:r = .ok (.value cv) { w with heap:=w.heap.push ob,drawn:=n })
  (hv:∀ θ' S w',θ' na=some l->RelV θ' S w' v cv)
  (ho:∀ (θ':Th) (S':Nat->Prop),(∀ a l,θ a=some l->θ' a=some l)->(∀ c,c<w.heap.size->Qe θ H c->S' c∧({ w with heap:=w.heap.push ob,drawn:=n }:World).heap[c]? = w.heap[c]?) ->
   RelObj θ' S' { w with heap:=w.heap.push ob,drawn:=n } o l) (hoc:∀ c,o.occ l c->l.blk=c:=by intro c h;exact h):Vo θ H w na v { new:=some o } r:=by
 have hH':=hH.drew n;have e1:=Evo.drew θ H w n;obtain ⟨hp,ev⟩:=Qo5 (w := { w with drawn:=n }) hH' hna ob o l hb hoc;refine ⟨cv,_,upθ θ na l,.inl hr,hv _ _ _ (by simp [upθ]),hp (ho _ _ ev.ext (fun c hc hf=>ev.free c hc hf)),?_,fun b hb=>by simp [upθ,hb],fun h=>by cases h⟩;exact e1.trans ev

theorem Jw (hH:Hp θ H w) (hG:GlobOK Gl θ H w) {v:AV} {cv:Value} (hv:RelV θ (Qe θ H) w v cv) {cs:List AV} (hs:Vb Gl H v=some cs) :
  ∃ addr vs,cv = .pointer (some addr)∧addr.spot=none∧RelVs θ (Qe θ H) w cs vs∧∀ (j:Nat) u,vs[j]? = some u->w.cell? (addr.add j)=some u:=by
 cases v with
 | ptr x off=>
  cases hv with
  | ptr _ _ l hl=>
   simp only [Vb] at hs
   cases ho:H[x]? with
   | none=>simp [ho] at hs
   | some o=>
    cases o<;>simp [ho] at hs;rename_i ds;obtain ⟨C,t,fz,h1,h2,h3,h4,h5⟩:=hH.obj x _ l ho hl;subst hs
    have base:RelVs θ (Qe θ H) w ds ((C.toList.drop l.off).take ds.length):=by
     refine ⟨by simp;omega,fun c hc=>?_,fun j x hx=>?_⟩
     ·obtain ⟨j,hj⟩:=Mf.1 hc;rw [Lz] at hj;split at hj
      ·rename_i hlt;rw [Ly] at hj;have:=(h5 j ds[j] (by simp [hlt])).2
       have e:C.getD (l.off+j) Qc=c:=by
        rw [Lo];simp at hj;rw [hj];rfl
       rwa [e] at this
      cases hj
     have hlt:=(La.1 hx).1;have:=(h5 j x hx).1;rw [Le,Lz,Af hlt,Ly];rw [Lo] at this;simpa using this
    refine ⟨_,_,rfl,rfl,base.drop off,fun j u hj=>?_⟩;rw [Ly,Lz] at hj;split at hj
    ·rw [Ly] at hj;rw [Addr.add_lit];unfold World.cell?;simp only [h1];simp at hj ⊢;rw [← hj];congr 1;omega
    cases hj
 | gptr g off=>
  cases hv;simp only [Vb] at hs
  cases hg:Gl g with
  | none=>simp [hg] at hs
  | some ps=>
   simp [hg] at hs;subst hs;obtain ⟨h1,h2,vs,h3,h4,h5⟩:=hG g ps hg;have base:RelVs θ (Qe θ H) w (ps.map .p) vs := .ofP h3.1 h4 (fun i x hx=>(h5 i x hx).2);have hb:=base.drop off;refine ⟨_,_,rfl,rfl,hb,fun j u hj=>?_⟩;rw [Ly] at hj;have hlt:=(La.1 hj).1;have:=(h5 (off+j) ps[off+j] (by simp [h3.1▸hlt])).1;rw [Addr.add_lit,this,Le,hj];rfl
 | rptr ps=>
  cases hv with
  | rptr _ blk off val hS hc h1 hvv=>
   simp only [Vb,Ld] at hs;subst hs
   have base:RelVs θ (Qe θ H) w (ps.map .p) ((List.range ps.length).map val):=by
    refine .ofP (by simp) (fun c hc=>?_) (fun i x hx=>?_)
    ·obtain ⟨j,_,rfl⟩:=Mm.1 hc;exact h1 j
    have hlt:=(La.1 hx).1;have:=hvv i x hx;rw [Le];simpa [hlt] using this
   refine ⟨_,_,rfl,rfl,base,fun j u hj=>?_⟩;rw [Lk] at hj
   by_cases hlt:j<ps.length
   ·simp [hlt] at hj;rw [Addr.add_lit,hc j ps[j] (by simp [hlt]),hj]
   simp [hlt] at hj
 | _=>simp [Vb] at hs

theorem Q6x {t:TypeId} {n:Nat} (h:Q4r P t n=true):∃ i,P.info? t=some i∧i.size=n:=by
 unfold Q4r at h
 cases hi:P.info? t with
 | none=>simp [hi] at h
 | some i=>simp [hi] at h;exact ⟨i,rfl,h⟩
theorem W9 {t:TypeId} {n:Nat} (h:Q4r P t n=true) (w:World):(sizeOf t).run P w = .ok n w:=by
 obtain ⟨i,hi,hn⟩:=Q6x h;simp [sizeOf,typeInfo,hi,hn]
theorem Q6p {t:TypeId} {b:Bool} (h:Q9j P t b=true) (w:World):(isAgg t).run P w = .ok b w:=by
 unfold Q9j at h
 cases hu:P.underlying t with
 | none=>simp [hu] at h
 | some d=>
  have:=run_underlying (P:=P) hu w;cases d<;>simp [hu] at h<;>subst h<;>simp [isAgg,this]

theorem Q5u {t:TypeId} {n:Nat} {b:Bool} (hn:Q4r P t n=true) (hb:Q9j P t b=true) {addr:Addr} {vs:List Value} (hl:vs.length=n)
  (hc:∀ (j:Nat) u,vs[j]? = some u->w.cell? (addr.add j)=some u) {cv:Value} (hv:(b=true∧cv = .agg vs.toArray)∨(b=false∧vs.head? = some cv)) :
  (loadVar t addr).run P w = .ok cv w:=by
 rcases hv with ⟨rfl,rfl⟩ | ⟨rfl,hh⟩
 ·have:=run_loadCells_list (P:=P) w addr vs hc;rw [hl] at this;simp [loadVar,Q6p hb,W9 hn,this,Result.andThen]
 ·have h0:vs[0]? = some cv:=by rw [← hh];cases vs<;>rfl
  have:=hc 0 cv h0
  have e:addr.add 0=addr:=by simp [Addr.add]
  rw [e] at this;simp [loadVar,Q6p hb,this]

theorem Jr {β:Type} {n:Nat} {l c:List β} (h:Gd n l=some c):c=l.take n∧c.length=n:=by
 unfold Gd at h;split at h
 ·cases h;rename_i h;exact ⟨rfl,h⟩
 ·cases h

theorem Qdw {b:Bool} {cs:List AV} {vs:List Value} (h:RelVs θ S w cs vs) {v:AV} (hv:sOf b cs=some v) :
  ∃ cv,((b=true∧cv = .agg vs.toArray)∨(b=false∧vs.head? = some cv))∧RelV θ S w v cv:=by
 cases b with
 | true=>cases hv;exact ⟨_,.inl ⟨rfl,rfl⟩,Q5n h⟩
 | false=>
  cases cs with
  | nil=>cases hv
  | cons x xs=>
   cases hv
   cases vs with
   | nil=>have:=h.1;simp at this
   | cons u us=>exact ⟨u,.inr ⟨rfl,rfl⟩,by simpa using h.2.2 0 v rfl⟩

theorem Qmm (hT:TmOk θ (Qe θ H) w tm a) (hH:Hp θ H w) (hG:GlobOK Gl θ H w) {t:TypeId} {x:Operand} {n:Nat} {b:Bool} {y:Opd} (hn:Q4r P t n=true) (hb:Q9j P t b=true)
  (hx:Q7 x y=true) {v:AV} {e:Eff} (hs:Ql Gl tm H na (.load n b y)=some (v,e)) {o:Oper} (ho:o.op = .load t x):Vo θ H w na v e ((execOp a.eval o).run P w):=by
 simp only [Ql] at hs
 cases h1:Vb Gl H (Q1 tm y) with
 | none=>simp [h1] at hs
 | some cs=>
  cases h2:Gd n cs with
  | none=>simp [h1,h2] at hs
  | some ds=>
   cases h3:sOf b ds with
   | none=>simp [h1,h2,h3] at hs
   | some v'=>
    simp [h1,h2,h3,Qd] at hs;obtain ⟨rfl,rfl⟩:=hs;obtain ⟨addr,vs,hcv,hsp,hrel,hcell⟩:=Jw hH hG (Qj hT hx) h1;obtain ⟨rfl,hlen⟩:=Jr h2;have hrel':=hrel.take n;obtain ⟨cv,hcv',hrv⟩:=Qdw hrel' h3
    have hload:=Q5u (w:=w) hn hb (addr:=addr) (vs:=vs.take n) (by rw [hrel'.1,hlen]) (fun j u hj=>hcell j u (by
     rw [Lz] at hj;split at hj
     ·exact hj
     cases hj)) hcv'
    refine Q4 hH ?_ hrv;simp [execOp,ho,Instr.loadAt,hcv,Instr.sureAddr,hload]
end
end
end Go.Av
namespace Go.Av
noncomputable section
section
variable {P:Program} {Gl:Nat->Option (List PV)} {θ:Th} {H:List AObj} {w:World} {a:Act} {tm:List AV} {S:Nat->Prop} {na:Nat}

theorem Qfd (w:World) (b o:Nat) (v:Value) (C:Array Value) (t:TypeId) (fz:Nat×Nat) (h:w.heap[b]? = some (.cells C t fz)) :
  (w.setCell ⟨b,o,none⟩ v).heap[b]? = some (.cells (C.setIfInBounds o v) t fz):=by
 have hlt:=Q0t h;unfold World.setCell;simp only [Mu];simp [h]
theorem Qcw (w:World) (b o c:Nat) (v:Value) (h:c≠b):(w.setCell ⟨b,o,none⟩ v).heap[c]? = w.heap[c]? := by
 unfold World.setCell;simp only [Mu];simp [Ne.symm h]
theorem Q1m (b c:Nat) (h:c≠b):∀ (vs:List Value) (o:Nat) (w:World),(w.setCells b o vs).heap[c]? = w.heap[c]?
 | [],_,_=>rfl
 | v::r,o,w=>by
  simp only [World.setCells];rw [Q1m b c h r,Qcw _ _ _ _ _ h]
theorem Q2r (b:Nat):∀ (vs:List Value) (o:Nat) (w:World),(w.setCells b o vs).heap.size=w.heap.size∧(w.setCells b o vs).os=w.os∧(w.setCells b o vs).tape=w.tape∧(w.setCells b o vs).output=w.output
 | [],_,_=>⟨rfl,rfl,rfl,rfl⟩
 | v::r,o,w=>by
  simp only [World.setCells];obtain ⟨h1,h2,h3,h4⟩:=Q2r b r (o+1) (w.setCell ⟨b,o,none⟩ v);refine ⟨h1.trans ?_,h2,h3,h4⟩;simp [World.setCell]
theorem Q2t (b:Nat) (t:TypeId) (fz:Nat×Nat):∀ (vs:List Value) (o:Nat) (w:World) (C:Array Value),w.heap[b]? = some (.cells C t fz)->o+vs.length≤C.size ->
  ∃ C',(w.setCells b o vs).heap[b]? = some (.cells C' t fz)∧C'.size=C.size∧∀ j,C'.getD j Qc=if o≤j∧j<o+vs.length then vs.getD (j - o) Qc else C.getD j Qc
 | [],o,w,C,h,_=>⟨C,h,rfl,fun j=>by
   have:¬ (o≤j∧j<o+([]:List Value).length):=by simp
   rw [Ae this]⟩
 | v::r,o,w,C,h,hl=>by
  simp only [Mo] at hl;obtain ⟨C',h1,h2,h3⟩:=Q2t b t fz r (o+1) (w.setCell ⟨b,o,none⟩ v) (C.setIfInBounds o v) (Qfd w b o v C t fz h) (by simp;omega);refine ⟨C',h1,by simpa using h2,fun j=>?_⟩;rw [h3];simp only [Mo]
  by_cases hj:j=o
  ·subst hj;rw [Ae (by omega),Af (by omega)];simp [Array.getD_eq_getD_getElem?,Array.getElem?_setIfInBounds]
   have:j<C.size:=by omega
   simp [this]
  ·by_cases hr:o+1≤j∧j<o+1+r.length
   ·rw [Af hr,Af (by omega)];obtain ⟨m,hm⟩:∃ m,j - o=m+1:=⟨j - o - 1,by omega⟩
    have:j - (o+1)=m:=by omega
    rw [hm,this];rfl
   ·rw [Ae hr,Ae (by omega)];simp [Array.getD_eq_getD_getElem?,Ne.symm hj]

theorem Q7y {w:World} {b:Nat} {C:Array Value} {t:TypeId} {fz:Nat×Nat} (h:w.heap[b]? = some (.cells C t fz)) (hf:∀ j,j<C.size->¬(fz.1≤j∧j<fz.2)) {j:Nat} (hj:j<C.size) :
  w.frozen? ⟨b,j,none⟩=false:=by
 unfold World.frozen?;obtain ⟨lo,hi⟩:=fz;have:=hf j hj;simp only [h];simp only [Bool.and_eq_false_iff,An]
 by_cases h1:lo≤j
 ·exact .inr (by simpa using fun h2=>this ⟨h1,h2⟩)
 ·exact .inl h1

theorem Qe7 (hH:Hp θ H w) {x:Nat} {cs:List AV} {l:Loc} (ho:H[x]? = some (.cells cs)) (hl : θ x=some l) {off:Nat} {new:List AV} {vs:List Value}
  (hv:RelVs θ (Qe θ H) w new vs) (hle:off+new.length≤cs.length) :
  (∀ (Q:Program),(storeCells ⟨l.blk,l.off+off,none⟩ vs 0).run Q w = .ok () (w.setCells l.blk (l.off+off) vs)) ∧
  Hp θ (H.set x (.cells (Ua cs off new))) (w.setCells l.blk (l.off+off) vs)∧Evo θ H w θ (H.set x (.cells (Ua cs off new))) (w.setCells l.blk (l.off+off) vs):=by
 obtain ⟨C,t,fz,h1,h2,h3,h4,h5⟩:=hH.obj x _ l ho hl;have hvl:=hv.1;obtain ⟨C',c1,c2,c3⟩:=Q2t l.blk t fz vs (l.off+off) w C h1 (by omega);obtain ⟨m1,m2,m3,m4⟩:=Q2r l.blk vs (l.off+off) w;have hs:=Qdh (o' := .cells (Ua cs off new)) hH ho rfl hl (w.setCells l.blk (l.off+off) vs) m1 (fun c hc=>Q1m _ _ hc _ _ _) m2 m3 m4;refine ⟨fun Q=>?_,hs.1 ?_,hs.2⟩
 ·have:=run_storeCells_cells (P:=Q) l.blk (l.off+off) vs 0 w (fun j hj=>?_) (fun j hj=>?_) hv.2.1
  ·simpa using this
  ·simp only [Nc];unfold World.cell?;simp only [h1]
   simp;omega
  simp only [Nc];exact Q7y h1 h3 (by omega)
 ·refine ⟨C',t,fz,c1,c2.trans h2,fun j hj=>h3 j (by omega),?_,fun j v hj=>?_⟩
  ·simp only [Ua,Mw,Mq,Nl];omega
  ·rw [c3];unfold Ua at hj;have hmono:∀ {y:AV} {u:Value},RelV θ (Qe θ H) w y u->RelV θ (Qe θ (H.set x (.cells (Ua cs off new)))) (w.setCells l.blk (l.off+off) vs) y u:=fun r=>hs.2.relV r
   by_cases hj1:j<off
   ·rw [Lh (by simp;omega),Lz,Af hj1] at hj;rw [Ae (by omega)];exact ⟨hmono (h5 j v hj).1,(h5 j v hj).2⟩
   ·rw [Lm (by simp;omega)] at hj
    have e1:j - (cs.take off).length=j - off:=by simp;omega
    rw [e1] at hj
    by_cases hj2:j - off<new.length
    ·rw [Lh hj2] at hj;rw [Af (by omega)]
     have e2:l.off+j - (l.off+off)=j - off:=by omega
     rw [e2];refine ⟨hmono (hv.2.2 (j - off) v hj),hv.2.1 _ ?_⟩;rw [Le,Lc (by omega)];simp
    ·rw [Lm (by omega),Ly] at hj
     have e2:off+new.length+(j - off - new.length)=j:=by omega
     rw [e2] at hj;rw [Ae (by omega)];exact ⟨hmono (h5 j v hj).1,(h5 j v hj).2⟩

theorem Ql1 (hT:TmOk θ (Qe θ H) w tm a) (hH:Hp θ H w) {t:TypeId} {x y:Operand} {n:Nat} {x' y':Opd} (hn:Q4r P t n=true)
  (hx:Q7 x x'=true) (hy:Q7 y y'=true) {v:AV} {e:Eff} (hs:Ql Gl tm H na (.store n x' y')=some (v,e)) {o:Oper} (ho:o.op = .store t x y):Vo θ H w na v e ((execOp a.eval o).run P w):=by
 simp only [Ql] at hs;have hrx:=Qj hT hx;have hry:=Qj hT hy;generalize hvx:Q1 tm x'=vx at hs hrx
 cases vx<;>simp only [] at hs<;>try (cases hs;done)
 rename_i b off
 cases hob:H[b]? with
 | none=>simp [hob] at hs
 | some ob=>
  cases ob<;>simp [hob] at hs;rename_i cs
  cases hc:(Q1 tm y').cells? with
  | none=>simp [hc] at hs
  | some new=>
   simp [hc] at hs;obtain ⟨⟨h1,h2⟩,rfl,rfl⟩:=hs;generalize hax:a.eval x=ax at hrx
   cases hrx with
   | ptr _ _ l hl=>
    have hcells:=Q6h hry hc;obtain ⟨w1,w2,w3⟩:=Qe7 hH hob hl hcells (off:=off) (by omega)
    have hsz:(a.eval y).cells.size=n:=by have:=hcells.1;simp at this;omega
    refine ⟨undef,_,θ,.inr ⟨?_,rfl⟩,?_,w2,w3,fun _ _=>rfl,fun _=>rfl⟩
    ·have:=W9 hn w;simp [execOp,ho,Instr.storeAt,hax,Instr.sureAddr,storeVar,this,hsz,w1 P,Result.andThen]
    ·exact .p _ _ (.tuple [] #[] rfl (fun i x h=>by simp at h))

theorem Q2c {t:TypeId} {z:List PV} (h:Q53 P t z=true):∃ i v,P.info? t=some i∧i.zero=some v∧Q10 z v.cells.toList=true:=by
 unfold Q53 at h
 cases hi:P.info? t with
 | none=>simp [hi] at h
 | some i=>
  simp [hi] at h
  cases hz:i.zero with
  | none=>simp [hz] at h
  | some v=>simp [hz] at h;exact ⟨i,v,rfl,hz,h⟩
theorem Q6a {z:List PV} {vs:List Value} (h:Q10 z vs=true):RelVs θ S w (z.map .p) vs:=by
 obtain ⟨h1,h2,h3⟩:=Q14 (S:=S) (w:=w) z vs h;exact .ofP h1 h2 h3
theorem Q6y {t:TypeId} {i:TypeInfo} {v:Value} (hi:P.info? t=some i) (hz:i.zero=some v) (w:World):(zeroValue t).run P w = .ok v w:=by
 simp [zeroValue,typeInfo,hi,hz]

theorem Qlu {n:Nat} {t:TypeId} {cs:List AV} {vs:List Value} (extra:List Value) (hv:RelVs θ (Qe θ H) w cs vs) (θ':Th) (S':Nat->Prop)
  (h1:∀ a l,θ a=some l->θ' a=some l) (h2:∀ c,c<w.heap.size->Qe θ H c->S' c∧({ w with heap:=w.heap.push (.cells (vs++extra).toArray t),drawn:=n }:World).heap[c]? = w.heap[c]?) :
  RelObj θ' S' { w with heap:=w.heap.push (.cells (vs++extra).toArray t),drawn:=n } (.cells cs) ⟨w.heap.size,0,vs.length+extra.length⟩:=by
 refine ⟨(vs++extra).toArray,t,(0,0),by simp,by simp,fun j _=>by simp,by simp [hv.1],fun j v hj=>?_⟩;have hlt:=(La.1 hj).1;have hv':=hv.mono h1 h2
 have e:(vs++extra).toArray.getD (0+j) Qc=vs.getD j Qc:=by
  rw [Lo,Le];simp only [Lv,List.getElem?_toArray];rw [Lh (by rw [hv.1];exact hlt)]
 rw [e];refine ⟨hv'.2.2 j v hj,hv.2.1 _ ?_⟩;rw [Le,Lc (by rw [hv.1];exact hlt)];simp

theorem Q6f {r:Result Next} {v:AV} {cv:Value} {n:Nat} (hH:Hp θ H w) (hna:AlOk θ H na) {t:TypeId} {cs:List AV} {vs:List Value} (extra:List Value) (hv:RelVs θ (Qe θ H) w cs vs)
  (hr:r = .ok (.value cv) { w with heap:=w.heap.push (.cells (vs++extra).toArray t),drawn:=n })
  (hcv:∀ θ' S w',θ' na=some ⟨w.heap.size,0,vs.length+extra.length⟩->RelV θ' S w' v cv):Vo θ H w na v { new:=some (.cells cs) } r:=
 Q8r hH hna _ _ _ rfl hr hcv (fun θ' S' h1 h2=>Qlu extra hv θ' S' h1 h2)

theorem Qlg (hH:Hp θ H w) (hna:AlOk θ H na) {t:TypeId} {z:List PV} (hz:Q53 P t z=true)
  {v:AV} {e:Eff} (hs:Ql Gl tm H na (.alloc z)=some (v,e)) {o:Oper} (ho:o.op = .alloc t):Vo θ H w na v e ((execOp a.eval o).run P w):=by
 simp only [Ql,Ld,Lf] at hs;obtain ⟨rfl,rfl⟩:=hs;obtain ⟨i,zv,hi,hz1,hz2⟩:=Q2c hz;refine Q6f (n:=w.drawn) (t:=t) (cv := .pointer (some ⟨w.heap.size,0,none⟩)) hH hna [] (Q6a hz2) ?_ (fun θ' S w' h => .ptr na 0 _ h);have:=Q6y hi hz1 w;simp [execOp,ho,Instr.alloc,this,newVar,newRow,Result.andThen]

theorem Qq1 (hT:TmOk θ (Qe θ H) w tm a) (hH:Hp θ H w) (hna:AlOk θ H na) {t:TypeId} {x:Operand} {y:Opd} (hx:Q7 x y=true)
  {v:AV} {e:Eff} (hs:Ql Gl tm H na (.box y)=some (v,e)) {o:Oper} (ho:o.op = .box t x):Vo θ H w na v e ((execOp a.eval o).run P w):=by
 simp only [Ql] at hs
 cases hc:(Q1 tm y).cells? with
 | none=>simp [hc] at hs
 | some cs=>
  simp [hc] at hs;obtain ⟨rfl,rfl⟩:=hs;refine Q6f (n:=w.drawn) (t:=t) (cv := .pointer (some ⟨w.heap.size,0,none⟩)) hH hna [] (Q6h (Qj hT hx) hc) ?_ (fun θ' S w' h => .ptr na 0 _ h);simp [execOp,ho,Instr.box,newVar,newRow,Result.andThen]
end
end
end Go.Av
namespace Go.Av
noncomputable section
section
variable {P:Program} {Gl:Nat->Option (List PV)} {θ:Th} {H:List AObj} {w:World} {a:Act} {tm:List AV} {S:Nat->Prop} {na:Nat}

theorem Vu {k:IntKind} {n:Int} {v:Value} (h:RelV θ S w (.p (.int k n)) v):v = .int k n:=by cases h with | p _ _ h=>cases h;rfl
theorem Q1h {b:Bool} {v:Value} (h:RelV θ S w (.p (.bool b)) v):v = .bool b:=by cases h with | p _ _ h=>cases h;rfl
theorem Q3e {s:List UInt8} {v:Value} (h:RelV θ S w (.p (.str s)) v):v = .string ⟨⟨s⟩⟩:=by cases h with | p _ _ h=>cases h;rfl
theorem Qb0 {v:Value} (h:RelV θ S w (.p .nilPtr) v):v = .pointer none:=by cases h with | p _ _ h=>cases h;rfl
theorem X9 {v:Value} (h:RelV θ S w (.p .nilSlice) v):v = .slice none 0 0:=by cases h with | p _ _ h=>cases h;rfl
theorem Q1w {v:Value} (h:RelV θ S w (.p .slice0) v):∃ a,v = .slice a 0 0:=by cases h with | p _ _ h=>cases h with | slice0 a=>exact ⟨a,rfl⟩
theorem Qk2 {v:Value} (h:RelV θ S w (.p .sliceS) v):∃ a c,v = .slice (some a) 0 c:=by cases h with | p _ _ h=>cases h with | sliceS a c=>exact ⟨a,c,rfl⟩
theorem Xv (k:IntKind) (n:Int):RelV θ S w (.p (.int k n)) (.int k n) := .p _ _ (.int _ _)
theorem Xb (b:Bool):RelV θ S w (.p (.bool b)) (.bool b) := .p _ _ (.bool _)
theorem Qkn (s:List UInt8):RelV θ S w (.p (.str s)) (.string ⟨⟨s⟩⟩) := .p _ _ (.str _)
theorem J0:RelV θ S w Zd undef := .p _ _ (.tuple [] #[] rfl (fun i x h=>by simp at h))

theorem Qhp (hT:TmOk θ (Qe θ H) w tm a) (hH:Hp θ H w) {x:Operand} {y:Opd} (hx:Q7 x y=true) {v:AV} {e:Eff} (hs:Ql Gl tm H na (.move y)=some (v,e))
  {o:Oper} (ho:o.op = .move x∨o.op = .assign x):Vo θ H w na v e ((execOp a.eval o).run P w):=by
 simp only [Ql,Qd,Ld,Lf] at hs;obtain ⟨rfl,rfl⟩:=hs;refine Q4 hH ?_ (Qj hT hx)
 rcases ho with ho | ho<;>simp [execOp,ho]

theorem Qny (hT:TmOk θ (Qe θ H) w tm a) (hH:Hp θ H w) {c x y:Operand} {c' x' y':Opd} (hc:Q7 c c'=true) (hx:Q7 x x'=true) (hy:Q7 y y'=true) {v:AV} {e:Eff}
  (hs:Ql Gl tm H na (.pick c' x' y')=some (v,e)) {o:Oper} (ho:o.op = .pick c x y):Vo θ H w na v e ((execOp a.eval o).run P w):=by
 simp only [Ql] at hs;have hrc:=Qj hT hc;split at hs
 ·rename_i b hb;rw [hb] at hrc;have:=Q1h hrc;simp only [Qd,Ld,Lf] at hs;obtain ⟨rfl,rfl⟩:=hs;cases b
  ·refine Q4 (cv:=a.eval y) hH ?_ (by simpa using Qj hT hy);simp [execOp,ho,this,asBool]
  refine Q4 (cv:=a.eval x) hH ?_ (by simpa using Qj hT hx);simp [execOp,ho,this,asBool]
 ·cases hs

theorem Qei (hT:TmOk θ (Qe θ H) w tm a) (hH:Hp θ H w) {x:Operand} {y:Opd} (hx:Q7 x y=true) {v:AV} {e:Eff} (hs:Ql Gl tm H na (.nilCheck y)=some (v,e))
  {o:Oper} (ho:o.op = .nilCheck x):Vo θ H w na v e ((execOp a.eval o).run P w):=by
 simp only [Ql] at hs;have hrx:=Qj hT hx
 have key:v=Q1 tm y∧e = {}∧((∃ p,a.eval x = .pointer (some p))∨(∃ f A B,a.eval x = .func (.func f) A B)∨∃ t v,a.eval x = .iface t v):=by
  generalize hvx:Q1 tm y=vx at hs hrx
  split at hs<;>try (cases hs;done)
  all_goals
   simp only [Qd,Ld,Lf] at hs;obtain ⟨rfl,rfl⟩:=hs;refine ⟨rfl,rfl,?_⟩
  ·generalize a.eval x=ax at hrx;cases hrx;exact .inl ⟨_,rfl⟩
  ·generalize a.eval x=ax at hrx;cases hrx;exact .inl ⟨_,rfl⟩
  ·generalize a.eval x=ax at hrx;cases hrx;exact .inl ⟨_,rfl⟩
  ·generalize a.eval x=ax at hrx;cases hrx;exact .inr (.inl ⟨_,_,_,rfl⟩)
  ·generalize a.eval x=ax at hrx;cases hrx with | p _ _ h=>cases h;exact .inr (.inl ⟨_,_,_,rfl⟩)
  ·generalize a.eval x=ax at hrx;cases hrx;exact .inr (.inr ⟨_,_,rfl⟩)
  generalize a.eval x=ax at hrx;cases hrx with | p _ _ h=>cases h;exact .inr (.inr ⟨_,_,rfl⟩)
 obtain ⟨rfl,rfl,h⟩:=key;refine Q4 hH ?_ hrx
 rcases h with ⟨p,h⟩ | ⟨f,A,B,h⟩ | ⟨t,v,h⟩<;>simp [execOp,ho,h]

theorem Qm4 {op:BinOp} {op':Ari} (h:Qc4 op op'=true) {i j:IntKind} {x y z:Int} (t:TypeId) (hz:Qpa op' i x y=some z) (hij:Qc2 op' i j=true) (w:World) :
  (binOp op t (.int i x) (.int j y)).run P w = .ok (.int i z) w:=by
 cases op<;>cases op'<;>simp [Qc4] at h<;>simp only [Qpa] at hz
 case quo | rem=>
  split at hz
  ·cases hz
  rename_i hy;cases hz;simp [Qc2] at hij;subst hij;simp [binOp,Op.intDiv,hy]
 case shl | shr=>
  split at hz
  ·rename_i hy;cases hz
   have:¬ y<0:=by omega
   simp [binOp,Op.shift,this]
  cases hz
 all_goals
  cases hz;simp [Qc2] at hij;subst hij;simp [binOp,Op.intArith,Op.intBits]

theorem Qj1 {i j:IntKind} (h:(i == j)=true):i=j:=by simpa using h

theorem Qqi (hT:TmOk θ (Qe θ H) w tm a) (hH:Hp θ H w) {op:BinOp} {op':Ari} {t yt:TypeId} {x y:Operand} {x' y':Opd} (hop:Qc4 op op'=true) (hx:Q7 x x'=true) (hy:Q7 y y'=true) {v:AV} {e:Eff}
  (hs:Ql Gl tm H na (.ari op' x' y')=some (v,e)) {o:Oper} (ho:o.op = .binOp op t x y yt):Vo θ H w na v e ((execOp a.eval o).run P w):=by
 simp only [Ql] at hs;have hrx:=Qj hT hx;have hry:=Qj hT hy;generalize Q1 tm x'=vx at hs hrx;generalize Q1 tm y'=vy at hs hry;split at hs
 ·rename_i i x0 j y0;have e1:=Vu hrx;have e2:=Vu hry;split at hs
  ·rename_i hk
   cases hz:Qpa op' i x0 y0 with
   | none=>simp [hz] at hs
   | some z=>
    simp only [hz,Lq,Qd,Ld,Lf] at hs;obtain ⟨rfl,rfl⟩:=hs;refine Q4 hH ?_ (Xv i z);have:=Qm4 hop t hz hk w (P:=P)
    have hg':(eqGuard op t x y (a.eval x) (a.eval y)).run P w = .ok () w:=by
     cases op<;>cases op'<;>simp [Qc4] at hop<;>simp [eqGuard]
    rw [e1,e2] at hg';simp [execOp,ho,hg',e1,e2,this,Result.andThen]
  cases hs
 ·rename_i s0 t0;have e1:=Q3e hrx;have e2:=Q3e hry
  cases op'<;>simp only [] at hs<;>try (cases hs;done)
  split at hs
  ·rename_i hlen;simp only [Qd,Ld,Lf] at hs;obtain ⟨rfl,rfl⟩:=hs;cases op<;>simp [Qc4] at hop;refine Q4 hH ?_ (Qkn (s0++t0))
   have h1:=run_string_add_sum (P:=P) w ⟨⟨s0⟩⟩ ⟨⟨t0⟩⟩ (by
    have:(⟨⟨s0⟩⟩:ByteArray).size+(⟨⟨t0⟩⟩:ByteArray).size=s0.length+t0.length:=rfl
    omega)
   have h2:(⟨⟨s0⟩⟩:ByteArray)++(⟨⟨t0⟩⟩:ByteArray)=⟨⟨s0++t0⟩⟩:=by
    apply ByteArray.ext;simp
   rw [h2] at h1;simp [execOp,ho,e1,e2,eqGuard,binOp,h1,Result.andThen]
  cases hs
 cases hs
end
end
end Go.Av
namespace Go.Av
noncomputable section
section
variable {P:Program} {Gl:Nat->Option (List PV)} {θ:Th} {H:List AObj} {w:World} {a:Act} {tm:List AV} {S:Nat->Prop} {na:Nat}

theorem Qpb {op:BinOp} {op':Cmp} (h:Q4w op op'=true) (i:IntKind) (x y:Int) (t:TypeId) (w:World) :
  (binOp op t (.int i x) (.int i y)).run P w = .ok (.bool (Q6 op' x y)) w:=by
 cases op<;>cases op'<;>simp [Q4w] at h<;>simp [binOp,Op.intCmp,Q6]
theorem Qq7 {op:BinOp} {op':Cmp} (h:Q4w op op'=true) (x y:List UInt8) (t:TypeId) (w:World) :
  (binOp op t (.string ⟨⟨x⟩⟩) (.string ⟨⟨y⟩⟩)).run P w = .ok (.bool (Q31 op' x y)) w:=by
 cases op<;>cases op'<;>simp [Q4w] at h<;>simp [binOp,Op.stringOp,Q31]
theorem Qm7 {op:BinOp} {op':Cmp} (h:Q4w op op'=true) (i j:IntKind) (m n:Int) (t:TypeId) (x y:Operand) (w:World) :
  (eqGuard op t x y (.int i m) (.int j n)).run P w = .ok () w:=by
 cases op<;>cases op'<;>simp [Q4w] at h<;>simp [eqGuard]
theorem Qm9 {op:BinOp} {op':Cmp} (h:Q4w op op'=true) (m n:ByteArray) (t:TypeId) (x y:Operand) (w:World) :
  (eqGuard op t x y (.string m) (.string n)).run P w = .ok () w:=by
 cases op<;>cases op'<;>simp [Q4w] at h<;>simp [eqGuard]

theorem Qq9 (hT:TmOk θ (Qe θ H) w tm a) (hH:Hp θ H w) {op:BinOp} {op':Cmp} {t yt:TypeId} {x y:Operand} {x' y':Opd} (hop:Q4w op op'=true) (hx:Q7 x x'=true) (hy:Q7 y y'=true) {v:AV} {e:Eff}
  (hs:Ql Gl tm H na (.cmp op' x' y')=some (v,e)) {o:Oper} (ho:o.op = .binOp op t x y yt):Vo θ H w na v e ((execOp a.eval o).run P w):=by
 simp only [Ql] at hs;have hrx:=Qj hT hx;have hry:=Qj hT hy;generalize Q1 tm x'=vx at hs hrx;generalize Q1 tm y'=vy at hs hry
 cases hb:Qrh op' vx vy with
 | none=>simp [hb] at hs
 | some b=>
  simp only [hb,Lq,Qd,Ld,Lf] at hs;obtain ⟨rfl,rfl⟩:=hs;refine Q4 hH ?_ (Xb b);unfold Qrh at hb;split at hb
  ·rename_i i x0 j y0;split at hb
   ·rename_i hk;cases hb;have:=Qj1 hk;subst this;simp [execOp,ho,Vu hrx,Vu hry,Qm7 hop,Qpb hop,Result.andThen]
   cases hb
  ·cases hb;simp [execOp,ho,Q3e hrx,Q3e hry,Qm9 hop,Qq7 hop,Result.andThen]
  ·cases hb

theorem Q8d (d:Nat) {t:TypeId} (ht:P.underlying t=some .bool) (p q:Bool) (w:World):(Op.equalIn (d+1) t (.bool p) (.bool q)).run P w = .ok (p == q) w:=by
 simp [Op.equalIn,run_underlying ht,Result.andThen]
theorem Qb9 {t:TypeId} (ht:P.underlying t=some .bool) (p q:Bool) (w:World):(Op.equal t (.bool p) (.bool q)).run P w = .ok (p == q) w:=
 Q8d 9999 ht p q w
theorem Q9m (d:Nat) {t u:TypeId} (ht:P.underlying t=some (.pointer u)) (p:Option Addr) (w:World):(Op.equalIn (d+1) t (.pointer p) (.pointer none)).run P w = .ok p.isNone w:=by
 cases p<;>simp [Op.equalIn,run_underlying ht,Result.andThen]
theorem Q6l {t u:TypeId} (ht:P.underlying t=some (.pointer u)) (p:Option Addr) (w:World):(Op.equal t (.pointer p) (.pointer none)).run P w = .ok p.isNone w:=
 Q9m 9999 ht p w
theorem Qb7 (t:TypeId) (p q:Bool):binOp .eql t (.bool p) (.bool q)=(do pure (.bool (← Op.equal t (.bool p) (.bool q)))):=by simp only [binOp]
theorem Qbg (t:TypeId) (p q:Bool):binOp .neq t (.bool p) (.bool q)=(do pure (.bool (!(← Op.equal t (.bool p) (.bool q))))):=by simp only [binOp]
theorem Q6m (t:TypeId) (p q:Option Addr):binOp .eql t (.pointer p) (.pointer q)=(do pure (.bool (← Op.equal t (.pointer p) (.pointer q)))):=by simp only [binOp]
theorem Q6t (t:TypeId) (p q:Option Addr):binOp .neq t (.pointer p) (.pointer q)=(do pure (.bool (!(← Op.equal t (.pointer p) (.pointer q))))):=by simp only [binOp]

theorem Qqq (hT:TmOk θ (Qe θ H) w tm a) (hH:Hp θ H w) {op:BinOp} {neg:Bool} {t yt:TypeId} {x y:Operand} {x' y':Opd}
  (hop:(op = .eql∧neg=false)∨(op = .neq∧neg=true)) (hx:Q7 x x'=true) (hy:Q7 y y'=true) (ht:P.underlying t=some .bool) {v:AV} {e:Eff}
  (hs:Ql Gl tm H na (.eqB neg x' y')=some (v,e)) {o:Oper} (ho:o.op = .binOp op t x y yt):Vo θ H w na v e ((execOp a.eval o).run P w):=by
 simp only [Ql] at hs;have hrx:=Qj hT hx;have hry:=Qj hT hy;generalize Q1 tm x'=vx at hs hrx;generalize Q1 tm y'=vy at hs hry;split at hs
 ·rename_i p q;simp only [Qd,Ld,Lf] at hs;obtain ⟨rfl,rfl⟩:=hs;refine Q4 hH ?_ (Xb _);have h1:=Q1h hrx;have h2:=Q1h hry
  rcases hop with ⟨rfl,rfl⟩ | ⟨rfl,rfl⟩ <;>
   simp [execOp,ho,h1,h2,eqGuard,Qb7,Qbg,Qb9 ht,Result.andThen]
 ·cases hs

theorem Qpc (hT:TmOk θ (Qe θ H) w tm a) (hH:Hp θ H w) {op:BinOp} {neg:Bool} {t yt:TypeId} {x y:Operand} {x' y':Opd}
  (hop:(op = .eql∧neg=false)∨(op = .neq∧neg=true)) (hx:Q7 x x'=true) (hy:Q7 y y'=true) {d:TypeId} (ht:P.underlying t=some (.pointer d)) {v:AV} {e:Eff}
  (hs:Ql Gl tm H na (.eqP neg x' y')=some (v,e)) {o:Oper} (ho:o.op = .binOp op t x y yt):Vo θ H w na v e ((execOp a.eval o).run P w):=by
 simp only [Ql] at hs;have hrx:=Qj hT hx;have hry:=Qj hT hy;generalize Q1 tm x'=vx at hs hrx;generalize Q1 tm y'=vy at hs hry;split at hs
 ·simp only [Qd,Ld,Lf] at hs;obtain ⟨rfl,rfl⟩:=hs;refine Q4 hH ?_ (Xb _);have h2:=Qb0 hry;generalize hax:a.eval x=ax at hrx;cases hrx
  rcases hop with ⟨rfl,rfl⟩ | ⟨rfl,rfl⟩ <;>
   simp [execOp,ho,hax,h2,eqGuard,Q6m,Q6t,Q6l ht,Result.andThen]
 ·simp only [Qd,Ld,Lf] at hs;obtain ⟨rfl,rfl⟩:=hs;refine Q4 hH ?_ (Xb _);have h1:=Qb0 hrx;have h2:=Qb0 hry
  rcases hop with ⟨rfl,rfl⟩ | ⟨rfl,rfl⟩ <;>
   simp [execOp,ho,h1,h2,eqGuard,Q6m,Q6t,Q6l ht,Result.andThen]
 ·cases hs

theorem Qpv (hT:TmOk θ (Qe θ H) w tm a) (hH:Hp θ H w) {t:TypeId} {x:Operand} {x':Opd} (hx:Q7 x x'=true) {v:AV} {e:Eff}
  (hs:Ql Gl tm H na (.not x')=some (v,e)) {o:Oper} (ho:o.op = .unOp .not t x):Vo θ H w na v e ((execOp a.eval o).run P w):=by
 simp only [Ql] at hs;have hrx:=Qj hT hx;generalize Q1 tm x'=vx at hs hrx;split at hs
 ·simp only [Qd,Ld,Lf] at hs;obtain ⟨rfl,rfl⟩:=hs;exact Q4 hH (by simp [execOp,ho,Q1h hrx,Op.unary]) (Xb _)
 cases hs
theorem Qqz (hT:TmOk θ (Qe θ H) w tm a) (hH:Hp θ H w) {t:TypeId} {x:Operand} {x':Opd} (hx:Q7 x x'=true) {v:AV} {e:Eff}
  (hs:Ql Gl tm H na (.neg x')=some (v,e)) {o:Oper} (ho:o.op = .unOp .neg t x):Vo θ H w na v e ((execOp a.eval o).run P w):=by
 simp only [Ql] at hs;have hrx:=Qj hT hx;generalize Q1 tm x'=vx at hs hrx;split at hs
 ·simp only [Qd,Ld,Lf] at hs;obtain ⟨rfl,rfl⟩:=hs;exact Q4 hH (by simp [execOp,ho,Vu hrx,Op.unary,Op.intArith]) (Xv _ _)
 cases hs
theorem Qms (hT:TmOk θ (Qe θ H) w tm a) (hH:Hp θ H w) {s d:TypeId} {i j:IntKind} (hsrc:P.underlying s=some (.int j)) (hd:P.underlying d=some (.int i)) {x:Operand} {x':Opd} (hx:Q7 x x'=true) {v:AV} {e:Eff}
  (hs:Ql Gl tm H na (.conv i x')=some (v,e)) {o:Oper} (ho:o.op = .convert s d x):Vo θ H w na v e ((execOp a.eval o).run P w):=by
 simp only [Ql] at hs;have hrx:=Qj hT hx;generalize Q1 tm x'=vx at hs hrx;split at hs
 ·simp only [Qd,Ld,Lf] at hs;obtain ⟨rfl,rfl⟩:=hs;exact Q4 hH (by simp [execOp,ho,Vu hrx,convert,run_underlying hsrc,run_underlying hd,Conv.intToInt,Result.andThen]) (Xv _ _)
 ·cases hs

theorem Q4l (hT:TmOk θ (Qe θ H) w tm a):∀ (xs:List Operand) (ys:List Opd),Qt xs ys=true->xs.length=ys.length∧∀ (i:Nat) v,(ys.map (Q1 tm))[i]? = some v->RelV θ (Qe θ H) w v ((xs.map a.eval).getD i Qc)
 | [],[],_=>⟨rfl,fun i v h=>by simp at h⟩
 | x::xs,y::ys,h=>by
  simp only [Qt,Lb] at h;obtain ⟨h1,h2⟩:=Q4l hT xs ys h.2;refine ⟨by simp [h1],fun i v hv=>?_⟩
  cases i with
  | zero=>simp at hv;subst hv;simpa using Qj hT h.1
  | succ i=>simpa using h2 i v (by simpa using hv)
 | [],_::_,h=>by simp [Qt] at h
 | _::_,[],h=>by simp [Qt] at h

theorem Zb (A:Array Value) (i:Nat) (d:Value):A.getD i d=A.toList.getD i d:=by
 rw [Lo,Le];simp

theorem Q7w (hT:TmOk θ (Qe θ H) w tm a) (hH:Hp θ H w) {f:Fn} {A B:Array Operand} {A' B':List Opd} (hA:Qt A.toList A'=true) (hB:Qt B.toList B'=true) {v:AV} {e:Eff}
  (hs:Ql Gl tm H na (.makeFunc f A' B')=some (v,e)) {o:Oper} (ho:o.op = .makeFunc f A B):Vo θ H w na v e ((execOp a.eval o).run P w):=by
 simp only [Ql,Qd,Ld,Lf] at hs;obtain ⟨rfl,rfl⟩:=hs;obtain ⟨a1,a2⟩:=Q4l hT _ _ hA;obtain ⟨b1,b2⟩:=Q4l hT _ _ hB;refine Q4 (cv := .func f (A.map a.eval) (B.map a.eval)) hH (by simp [execOp,ho,Instr.makeFunc]) (.func _ _ _ _ _ (by simpa using a1) (by simpa using b1) (fun i x hx=>?_) (fun i x hx=>?_))
 ·have:=a2 i x hx;rw [Zb];simpa using this
 ·have:=b2 i x hx;rw [Zb];simpa using this

theorem G7 (hT:TmOk θ (Qe θ H) w tm a) {x:Option Operand} {y:Option Opd} (h:Vt x y=true) {d n:Nat} (hn:Q4m d (y.map (Q1 tm))=some n) :
  (x=none∧n=d)∨∃ z k m,x=some z∧a.eval z = .int k m∧0≤m∧n=m.toNat:=by
 cases x with
 | none=>
  cases y with
  | none=>simp [Q4m] at hn;exact .inl ⟨rfl,hn.symm⟩
  | some y=>simp [Vt] at h
 | some x=>
  cases y with
  | none=>simp [Vt] at h
  | some y=>
   simp only [Vt] at h;have hr:=Qj hT h;simp only [Mc] at hn;unfold Q4m at hn;split at hn
   ·rename_i heq;cases heq
   ·rename_i k m heq;split at hn
    ·rename_i h0;cases hn;simp only [Ld] at heq;rw [heq] at hr;exact .inr ⟨x,k,m,rfl,Vu hr,h0,rfl⟩
    cases hn
   ·cases hn

theorem Qeb (hT:TmOk θ (Qe θ H) w tm a) (hH:Hp θ H w) {t:TypeId} {x:Operand} {lo hi:Option Operand} {x':Opd} {lo' hi':Option Opd} (hx:Q7 x x'=true) (hlo:Vt lo lo'=true) (hhi:Vt hi hi'=true)
  (ht:P.underlying t=some .string) {v:AV} {e:Eff} (hs:Ql Gl tm H na (.sliceStr x' lo' hi')=some (v,e)) {o:Oper} (ho:o.op = .slice t x lo hi none):Vo θ H w na v e ((execOp a.eval o).run P w):=by
 simp only [Ql] at hs;have hrx:=Qj hT hx;generalize Q1 tm x'=vx at hs hrx;split at hs
 ·rename_i s;split at hs
  ·rename_i l h hl hh;split at hs
   ·rename_i hle;simp only [Qd,Ld,Lf] at hs;obtain ⟨rfl,rfl⟩:=hs;refine Q4 (cv := .string ⟨⟨(s.take h).drop l⟩⟩) hH ?_ (Qkn _);have e1:=Q3e hrx;have hsz:(⟨⟨s⟩⟩:ByteArray).size=s.length:=rfl
    have hext:(⟨⟨s⟩⟩:ByteArray).extract l h=⟨⟨(s.take h).drop l⟩⟩:=by
     apply ByteArray.ext;simp [List.drop_take]
    rcases G7 hT hlo hl with ⟨rfl,rfl⟩ | ⟨zl,kl,ml,rfl,el,l0,rfl⟩<;>rcases G7 hT hhi hh with ⟨rfl,rfl⟩ | ⟨zh,kh,mh,rfl,eh,h0,rfl⟩
    ·simp [execOp,ho,e1,Instr.sliceAt,Instr.slice,Instr.sliceBounds,run_underlying ht,Result.andThen]
    ·have b1:mh≤s.length:=by omega
     simp [execOp,ho,e1,Instr.sliceAt,Instr.slice,Instr.sliceBounds,Instr.sliceBound,run_underlying ht,Result.andThen,hsz,eh,asIntOf,h0,b1];simpa using hext
    ·have b1:ml≤s.length:=by omega
     simp [execOp,ho,e1,Instr.sliceAt,Instr.slice,Instr.sliceBounds,Instr.sliceBound,run_underlying ht,Result.andThen,hsz,el,asIntOf,l0,b1];simpa using hext
    have b1:mh≤s.length:=by omega
    have b2:ml≤mh:=by omega
    simp [execOp,ho,e1,Instr.sliceAt,Instr.slice,Instr.sliceBounds,Instr.sliceBound,run_underlying ht,Result.andThen,hsz,el,eh,asIntOf,l0,h0,b1];rw [Af (by omega)];simp [hext]
   cases hs
  cases hs
 ·cases hs

theorem Qbw (hT:TmOk θ (Qe θ H) w tm a) (hH:Hp θ H w) {esz:Nat} {x:Operand} {x':Opd} {lo' hi':Option Opd} (hx:Q7 x x'=true) 
  {v:AV} {e:Eff} (hs:Ql Gl tm H na (.slice esz x' lo' hi')=some (v,e)) {o:Oper}
  (run:∀ (ad:Option Addr) (len cap l h:Nat),a.eval x = .slice ad len cap->Q4m 0 (lo'.map (Q1 tm))=some l->Q4m len (hi'.map (Q1 tm))=some h->l≤h->h≤len->len≤cap ->
   ∃ m,h≤m∧m≤cap∧(execOp a.eval o).run P w = .ok (.value (.slice (if m=l then ad else ad.map (·.add (l * esz))) (h - l) (m - l))) w):Vo θ H w na v e ((execOp a.eval o).run P w):=by
 simp only [Ql] at hs;have hrx:=Qj hT hx;generalize hvx:Q1 tm x'=vx at hs hrx;split at hs
 ·rename_i es b off len;split at hs
  ·rename_i l h hl hh;split at hs
   ·rename_i hle;obtain ⟨rfl,h1,h2⟩:=hle;simp only [Qd,Ld,Lf] at hs;obtain ⟨rfl,rfl⟩:=hs;generalize hax:a.eval x=ax at hrx
    cases hrx with
    | sliceN _ _ _ oa=>
     have e1:h=0:=by omega
     have e2:l=0:=by omega
     subst e1;subst e2;obtain ⟨m,m1,m2,rm⟩:=run oa 0 0 0 0 hax hl hh (by omega) (by omega) (by omega)
     have e3:m=0:=by omega
     subst e3;refine Q4 hH rm ?_;exact .sliceN _ _ _ oa
    | slice _ _ _ _ cap lc addr hθ he hlen hsz hadr=>
     obtain ⟨m,m1,m2,rm⟩:=run (some addr) len cap l h hax hl hh h1 h2 hlen;refine Q4 hH rm ?_;have hml:m * es≤cap * es:=Ni _ m2
     by_cases hc:m=l
     ·rw [Af hc]
      exact .slice _ _ _ _ _ lc addr hθ he (by omega) (by
       have:m - l=0:=by omega
       rw [this];have:l * es≤cap * es:=Ni _ (by omega)
       omega) (.inr (by omega))
     rw [Ae hc]
     have hadr':addr=⟨lc.blk,lc.off+off,none⟩:=by rcases hadr with h | h;exact h;omega
     subst hadr';simp only [Mc,Addr.add_lit];refine .slice _ _ _ _ _ lc _ hθ he (by omega) ?_ (.inl (by rw [Ng]))
     have:l * es+(m - l) * es=m * es:=by rw [← Be];congr 1;omega
     omega
   cases hs
  cases hs
 ·rename_i es rows;split at hs
  ·rename_i l h hl hh;split at hs
   ·rename_i hle;obtain ⟨rfl,h1,h2⟩:=hle;simp only [Qd,Ld,Lf] at hs;obtain ⟨rfl,rfl⟩:=hs;generalize hax:a.eval x=ax at hrx
    cases hrx with
    | p _ _ hp=>
     cases hp with
     | sliceE _ ad cap hcn=>
      simp at h2;subst h2;simp at h1;subst h1;obtain ⟨m,m1,m2,rm⟩:=run ad 0 cap 0 0 hax hl hh (by omega) (by omega) (by omega);refine Q4 hH rm ?_;simp only [List.take_nil,List.drop_nil]
      exact .p _ _ (.sliceE _ _ _ (fun h=>by
       cases ad with
       | none=>have:=hcn rfl;simp;omega
       | some a=>split at h<;>cases h))
     | slice _ _ blk off cap val he hr hcap hS hc hone hv=>
      obtain ⟨m,m1,m2,rm⟩:=run (some ⟨blk,off,none⟩) rows.length cap l h hax hl hh h1 h2 hcap;refine Q4 hH rm ?_
      have hlen:((rows.take h).drop l).length=h - l:=by simp;omega
      by_cases hempty:h=l
      ·subst hempty
       have:(rows.take h).drop h = []:=by apply Bf;omega
       rw [this];simp only [Bw];exact .p _ _ (.sliceE _ _ _ (fun h=>by split at h<;>cases h))
      have hc':¬ m=l:=by omega
      rw [Ae hc'];simp only [Mc,Addr.add_lit];rw [← hlen];refine .p _ _ (.slice es _ blk (off+l * es) (m - l) (fun i j=>val (i+l) j) he (fun r hr'=>hr r (List.mem_of_mem_take (List.mem_of_mem_drop hr'))) (by omega) hS (fun i r hi j y hj=>?_) (fun i j=>hone _ _) (fun i r hi j y hj=>?_))
      ·rw [Ly,Lz] at hi;split at hi
       ·rw [Nat.add_comm i l,← hc (l+i) r hi j y hj]
        congr 2
        rw [Be];omega
       cases hi
      rw [Ly,Lz] at hi;split at hi
      ·rw [Nat.add_comm i l];exact hv (l+i) r hi j y hj
      cases hi
   cases hs
  cases hs
 ·cases hs

theorem Qkm (hT:TmOk θ (Qe θ H) w tm a) (hH:Hp θ H w) {t d:TypeId} {esz:Nat} {x:Operand} {lo hi:Option Operand} {x':Opd} {lo' hi':Option Opd} (hx:Q7 x x'=true) (hlo:Vt lo lo'=true) (hhi:Vt hi hi'=true)
  (ht:P.underlying t=some (.slice d)) (hd:Q4r P d esz=true) {v:AV} {e:Eff} (hs:Ql Gl tm H na (.slice esz x' lo' hi')=some (v,e)) {o:Oper} (ho:o.op = .slice t x lo hi none):Vo θ H w na v e ((execOp a.eval o).run P w):=by
 refine Qbw hT hH hx hs fun ad len cap l h hax hl hh h1 h2 h3=>⟨cap,by omega,Lj _,?_⟩;have hz:=W9 hd w
 rcases G7 hT hlo hl with ⟨rfl,rfl⟩ | ⟨zl,kl,ml,rfl,el,l0,rfl⟩<;>rcases G7 hT hhi hh with ⟨rfl,rfl⟩ | ⟨zh,kh,mh,rfl,eh,h0,rfl⟩
 ·simp [execOp,ho,hax,Instr.sliceAt,Instr.slice,Instr.sliceBounds,run_underlying ht,Result.andThen,hz]
 ·have b1:mh≤cap:=by omega
  simp [execOp,ho,hax,Instr.sliceAt,Instr.slice,Instr.sliceBounds,Instr.sliceBound,run_underlying ht,Result.andThen,hz,eh,asIntOf,h0,b1]
 ·simp [execOp,ho,hax,Instr.sliceAt,Instr.slice,Instr.sliceBounds,Instr.sliceBound,run_underlying ht,Result.andThen,el,asIntOf,l0];rw [Af (by omega)];simp [hz]
 ·have b1:mh≤cap:=by omega
  simp [execOp,ho,hax,Instr.sliceAt,Instr.slice,Instr.sliceBounds,Instr.sliceBound,run_underlying ht,Result.andThen,el,eh,asIntOf,l0,h0,b1];rw [Af (by omega)];simp [hz]

theorem Qjr (hT:TmOk θ (Qe θ H) w tm a) (hH:Hp θ H w) {t d:TypeId} {esz:Nat} {x:Operand} {lo:Option Operand} {hi mx:Operand} {x':Opd} {lo' hi' mx':Option Opd} (hx:Q7 x x'=true) (hlo:Vt lo lo'=true) (hhi:Vt (some hi) hi'=true) (hmx:Vt (some mx) mx'=true)
  (ht:P.underlying t=some (.slice d)) (hd:Q4r P d esz=true) {v:AV} {e:Eff} (hs:Ql Gl tm H na (.slice3 esz x' lo' hi' mx')=some (v,e)) {o:Oper} (ho:o.op = .slice t x lo (some hi) (some mx)):Vo θ H w na v e ((execOp a.eval o).run P w):=by
 simp only [Ql] at hs
 split at hs<;>try (cases hs;done)
 rename_i h9 m9 hh9 hm9
 split at hs<;>try (cases hs;done)
 rename_i he9;subst he9;have hs:Ql Gl tm H na (.slice esz x' lo' hi')=some (v,e):=hs;refine Qbw hT hH hx hs fun ad len cap l h hax hl hh h1 h2 h3=>⟨h,Lj _,by omega,?_⟩;have hz:=W9 hd w
 obtain ⟨eq1,_⟩ | ⟨zh,kh,mh,eq1,eh,h0,e1⟩:=G7 hT hhi hh
 ·cases eq1
 obtain ⟨eq2,_⟩ | ⟨zm,km,mm,eq2,em,m0,e2⟩:=G7 hT hmx hm9
 ·cases eq2
 obtain ⟨eq3,_⟩ | ⟨zh3,kh3,mh3,eq3,eh3,h03,e3⟩:=G7 hT hhi hh9
 ·cases eq3
 cases eq1;cases eq2;cases eq3;rw [eh] at eh3;cases eh3
 have c1:mm.toNat=h:=by omega
 have c2:mh.toNat=h:=e1.symm
 have b0:mm≤cap:=by omega
 have b1:mh≤(h:Int):=by omega
 have b2:max mm 0=mm:=by omega
 rcases G7 hT hlo hl with ⟨rfl,rfl⟩ | ⟨zl,kl,ml,rfl,el,l0,rfl⟩
 ·simp [execOp,ho,hax,Instr.sliceAt,Instr.slice,Instr.sliceBounds,Instr.sliceBound,run_underlying ht,Result.andThen,hz,eh,em,asIntOf,h0,m0,b0,b1,b2,c1,c2]
 ·have b3:ml≤(h:Int):=by omega
  have b4:max mh 0=mh:=by omega
  simp [execOp,ho,hax,Instr.sliceAt,Instr.slice,Instr.sliceBounds,Instr.sliceBound,run_underlying ht,Result.andThen,hz,eh,em,el,asIntOf,l0,h0,m0,b0,b1,b2,b3,b4,c1,c2]

theorem Qcl (hT:TmOk θ (Qe θ H) w tm a) (hH:Hp θ H w) {t:TypeId} {f:Nat} {fs:Array Field} {fd:Field} (ht:P.underlying t=some (.struct fs)) (hf:fs[f]? = some fd) (hp:0<Q28 P fd.type)
  {x:Operand} {x':Opd} (hx:Q7 x x'=true) {v:AV} {e:Eff} (hs:Ql Gl tm H na (.fieldAddr x' fd.offset)=some (v,e)) {o:Oper} (ho:o.op = .fieldAddr t x f):Vo θ H w na v e ((execOp a.eval o).run P w):=by
 simp only [Ql] at hs;have hrx:=Qj hT hx;generalize Q1 tm x'=vx at hs hrx
 have run:∀ blk off,a.eval x = .pointer (some ⟨blk,off,none⟩)->(execOp a.eval o).run P w = .ok (.value (.pointer (some ⟨blk,off+fd.offset,none⟩))) w:=by
  intro blk off hax
  have hz:∃ n,(P.info? fd.type).map (·.size)=some n∧0<n:=by
   unfold Q28 at hp
   cases hi:P.info? fd.type with
   | none=>simp [hi] at hp
   | some i=>simp [hi] at hp;exact ⟨_,rfl,hp⟩
  obtain ⟨n,hn,hpos⟩:=hz
  have hsz:(sizeOf fd.type).run P w = .ok n w:=by
   cases hi:P.info? fd.type with
   | none=>simp [hi] at hn
   | some i=>simp [hi] at hn;simp [sizeOf,typeInfo,hi,hn]
  have hne:¬ n=0:=by omega
  simp [execOp,ho,hax,Instr.fieldAt,run_underlying ht,hf,Instr.sureAddr,fieldPlace,hsz,hne,Result.andThen,Addr.add_lit]
 split at hs<;>try (cases hs;done)
 all_goals
  simp only [Qd,Ld,Lf] at hs;obtain ⟨rfl,rfl⟩:=hs;generalize hax:a.eval x=ax at hrx
 ·cases hrx with
  | ptr _ _ l hl=>exact Q4 hH (run _ _ hax) (by rw [Ng];exact .ptr _ _ l hl)
 ·cases hrx;exact Q4 hH (run _ _ hax) (.gptr _ _)
 rename_i cs
 cases hrx with
 | rptr _ blk off val hS hc h1 hv=>
  refine Q4 hH (run _ _ hax) (.rptr _ blk (off+fd.offset) (fun j=>val (fd.offset+j)) (fun hne=>hS (fun h0=>hne (by rw [h0];simp))) (fun j y hj=>?_) (fun j=>h1 _) (fun j y hj=>?_))
  ·rw [Ly] at hj;rw [Ng];exact hc _ y hj
  rw [Ly] at hj;exact hv _ y hj
end
end
end Go.Av
namespace Go.Av
noncomputable section
section
variable {P:Program} {Gl:Nat->Option (List PV)} {θ:Th} {H:List AObj} {w:World} {a:Act} {tm:List AV} {S:Nat->Prop} {na:Nat}

theorem Qo1 {t:TypeId} {n:Nat} {b:Bool} (hn:Q4r P t n=true) (hb:Q9j P t b=true) {C:Array Value} {off:Nat} {cv:Value}
  (h:(b=true∧cv = .agg ((C.toList.drop off).take n).toArray)∨(b=false∧((C.toList.drop off).take n).head? = some cv)) (w:World):(part t C off).run P w = .ok cv w:=by
 rcases h with ⟨rfl,rfl⟩ | ⟨rfl,hh⟩
 ·simp [part,Q6p hb,W9 hn,Result.andThen];apply Array.ext';simp
 ·have:C[off]? = some cv:=by
   rw [List.head?_eq_getElem?,Lz] at hh;split at hh
   ·rw [Ly] at hh;simpa using hh
   cases hh
  simp [part,Q6p hb,this]

theorem Qmo {v:AV} {cv:Value} {cs:List AV} (h:RelV θ S w v cv) (hc:v.aggs? = some cs):∃ C,cv = .agg C∧RelVs θ S w cs C.toList:=by
 have hcells:v.cells? = some cs:=by
  unfold AV.aggs? at hc;split at hc
  ·simpa [AV.cells?] using hc
  ·simpa [AV.cells?] using hc
  cases hc
 have hr:=Q6h h hcells;unfold AV.aggs? at hc;split at hc
 ·cases h with | p _ _ hp=>cases hp with | agg _ C _ _ _=>exact ⟨C,rfl,hr⟩
 ·cases h with | agg _ C _ _ _=>exact ⟨C,rfl,hr⟩
 ·cases hc

theorem Qla (hT:TmOk θ (Qe θ H) w tm a) (hH:Hp θ H w) {t:TypeId} {f:Nat} {fs:Array Field} {fd:Field} (ht:P.underlying t=some (.struct fs)) (hf:fs[f]? = some fd) {n:Nat} {b:Bool} (hn:Q4r P fd.type n=true) (hb:Q9j P fd.type b=true)
  {x:Operand} {x':Opd} (hx:Q7 x x'=true) {v:AV} {e:Eff} (hs:Ql Gl tm H na (.field x' fd.offset n b)=some (v,e)) {o:Oper} (ho:o.op = .field t x f):Vo θ H w na v e ((execOp a.eval o).run P w):=by
 simp only [Ql] at hs;have hrx:=Qj hT hx
 cases hc:(Q1 tm x').aggs? with
 | none=>simp [hc] at hs
 | some cs=>
  obtain ⟨C,hax,hr⟩:=Qmo hrx hc;simp only [hc] at hs
  cases h2:Gd n (cs.drop fd.offset) with
  | none=>simp [h2] at hs
  | some ds=>
   cases h3:sOf b ds with
   | none=>simp [h2,h3] at hs
   | some v'=>
    simp only [h2,h3,Lq,Qd,Ld,Lf] at hs;obtain ⟨rfl,rfl⟩:=hs;obtain ⟨rfl,hlen⟩:=Jr h2;obtain ⟨cv,hcv,hrv⟩:=Qdw ((hr.drop fd.offset).take n) h3;refine Q4 hH ?_ hrv;have:=Qo1 (C:=C) (off:=fd.offset) hn hb hcv w;simp [execOp,ho,hax,Instr.field,run_underlying ht,hf,asAgg,this,Result.andThen]

theorem Qcf (hT:TmOk θ (Qe θ H) w tm a) (hH:Hp θ H w) {t d:TypeId} {esz:Nat} (ht:P.underlying t=some (.slice d)) (hd:Q4r P d esz=true)
  {x i:Operand} {x' i':Opd} (hx:Q7 x x'=true) (hi:Q7 i i'=true) {v:AV} {e:Eff} (hs:Ql Gl tm H na (.indexAddr esz x' i')=some (v,e)) {o:Oper} (ho:o.op = .indexAddr t x i):Vo θ H w na v e ((execOp a.eval o).run P w):=by
 simp only [Ql] at hs;have hrx:=Qj hT hx;have hri:=Qj hT hi;generalize Q1 tm x'=vx at hs hrx;generalize Q1 tm i'=vi at hs hri
 have run:∀ blk off len cap k (m:Int),a.eval x = .slice (some ⟨blk,off,none⟩) len cap->a.eval i = .int k m->0≤m->m<len ->
   (execOp a.eval o).run P w = .ok (.value (.pointer (some ⟨blk,off+m.toNat * esz,none⟩))) w:=by
  intro blk off len cap k m hax hai h0 h1;have hz:=W9 hd w;simp [execOp,ho,hax,hai,Instr.indexAt,run_underlying ht,asIntOf,h0,h1,hz,Result.andThen,Addr.add_lit]
 split at hs
 ·rename_i es b off len k m;split at hs
  ·rename_i hm;simp only [Qd,Ld,Lf] at hs;obtain ⟨rfl,rfl⟩:=hs;generalize hax:a.eval x=ax at hrx
   cases hrx with
   | sliceN _ _ _ _=>exact absurd hm.2 (by omega)
   | slice _ _ _ _ cap lc addr hθ he hlen hsz hadr=>
    have hadr':addr=⟨lc.blk,lc.off+off,none⟩:=by rcases hadr with h | h;exact h;omega
    subst hadr';exact Q4 hH (run _ _ _ _ k m hax (Vu hri) hm.1 hm.2) (by rw [Ng];exact .ptr _ _ lc hθ)
  cases hs
 ·rename_i es rows k m;split at hs
  ·rename_i hes;subst hes
   cases hr:idx rows m with
   | none=>simp [hr] at hs
   | some r=>
    simp only [hr,Lq,Qd,Ld,Lf] at hs;obtain ⟨rfl,rfl⟩:=hs
    cases m with
    | negSucc m=>simp [idx] at hr
    | ofNat m=>
     simp only [idx] at hr;have hlt:=(La.1 hr).1;generalize hax:a.eval x=ax at hrx
     cases hrx with
     | p _ _ hp=>
      cases hp with
      | sliceE _ ad cap _=>simp at hlt
      | slice _ _ blk off cap val he hrl hcap hS hc hone hv=>
       refine Q4 hH (run _ _ _ _ k _ hax (Vu hri) (by simp) (by simpa using hlt)) (.rptr r blk _ (fun j=>val m j) (fun _=>hS) (fun j y hj=>?_) (fun j=>hone _ _) (fun j y hj=>hv m r hr j y hj));rw [Ng];exact hc m r hr j y hj
  cases hs
 ·cases hs

theorem Qf3 (hT:TmOk θ (Qe θ H) w tm a) (hH:Hp θ H w) {t d:TypeId} {n esz:Nat} (ht:P.underlying t=some (.array n d)) (hd:Q4r P d esz=true)
  {x i:Operand} {x' i':Opd} (hx:Q7 x x'=true) (hi:Q7 i i'=true) {v:AV} {e:Eff} (hs:Ql Gl tm H na (.indexArr n esz x' i')=some (v,e)) {o:Oper} (ho:o.op = .indexAddr t x i):Vo θ H w na v e ((execOp a.eval o).run P w):=by
 simp only [Ql] at hs;have hrx:=Qj hT hx;have hri:=Qj hT hi;generalize Q1 tm x'=vx at hs hrx;generalize Q1 tm i'=vi at hs hri
 have run:∀ blk off k (m:Int),a.eval x = .pointer (some ⟨blk,off,none⟩)->a.eval i = .int k m->0≤m->m<n ->
   (execOp a.eval o).run P w = .ok (.value (.pointer (some ⟨blk,off+m.toNat * esz,none⟩))) w:=by
  intro blk off k m hax hai h0 h1;have hz:=W9 hd w;simp [execOp,ho,hax,hai,Instr.indexAt,Instr.sureAddr,run_underlying ht,asIntOf,h0,h1,hz,Result.andThen,Addr.add_lit]
 split at hs
 ·rename_i b off k m;split at hs
  ·rename_i hm;simp only [Qd,Ld,Lf] at hs;obtain ⟨rfl,rfl⟩:=hs;generalize hax:a.eval x=ax at hrx
   cases hrx with
   | ptr _ _ lc hθ=>exact Q4 hH (run _ _ k m hax (Vu hri) hm.1 hm.2) (by rw [Ng];exact .ptr _ _ lc hθ)
  cases hs
 ·rename_i b off k m;split at hs
  ·rename_i hm;simp only [Qd,Ld,Lf] at hs;obtain ⟨rfl,rfl⟩:=hs;generalize hax:a.eval x=ax at hrx;cases hrx;exact Q4 hH (run _ _ k m hax (Vu hri) hm.1 hm.2) (.gptr _ _)
  cases hs
 ·cases hs

theorem Qez (hT:TmOk θ (Qe θ H) w tm a) (hH:Hp θ H w) {t:TypeId} (ht:P.underlying t=some .string)
  {x i:Operand} {x' i':Opd} (hx:Q7 x x'=true) (hi:Q7 i i'=true) {v:AV} {e:Eff} (hs:Ql Gl tm H na (.indexStr x' i')=some (v,e)) {o:Oper} (ho:o.op = .index t x i):Vo θ H w na v e ((execOp a.eval o).run P w):=by
 simp only [Ql] at hs;have hrx:=Qj hT hx;have hri:=Qj hT hi;generalize Q1 tm x'=vx at hs hrx;generalize Q1 tm i'=vi at hs hri;split at hs
 ·rename_i s k m
  cases hr:idx s m with
  | none=>simp [hr] at hs
  | some r=>
   simp only [hr,Lq,Qd,Ld,Lf] at hs;obtain ⟨rfl,rfl⟩:=hs
   cases m with
   | negSucc m=>simp [idx] at hr
   | ofNat m=>
    simp only [idx] at hr
    have hget:(⟨⟨s⟩⟩:ByteArray)[m]? = some r:=by
     have hlt:=(La.1 hr).1;have hlt':m<(⟨⟨s⟩⟩:ByteArray).size:=hlt;rw [getElem?_pos (⟨⟨s⟩⟩:ByteArray) m hlt'];rw [Lc hlt] at hr;cases hr;rfl
    refine Q4 hH ?_ (Xv _ _);have e1:=Q3e hrx;have e2:=Vu hri;simp [execOp,ho,e1,e2,Instr.index,run_underlying ht,asIntOf,hget,Result.andThen]
 ·cases hs

theorem Qgt (hT:TmOk θ (Qe θ H) w tm a) (hH:Hp θ H w) {n:Nat} {x:Operand} {x':Opd} (hx:Q7 x x'=true) {v:AV} {e:Eff} (hs:Ql Gl tm H na (.extract x' n)=some (v,e)) {o:Oper} (ho:o.op = .extract x n) :
  Vo θ H w na v e ((execOp a.eval o).run P w):=by
 simp only [Ql] at hs;have hrx:=Qj hT hx;generalize Q1 tm x'=vx at hs hrx
 have run:∀ C:Array Value,a.eval x = .tuple C->n<C.size->(execOp a.eval o).run P w = .ok (.value (C.getD n Qc)) w:=by
  intro C hax hlt
  have h1:C[n]? = some (C.getD n Qc):=by rw [Lo,Lr hlt];rfl
  simp only [execOp,ho,hax,Instr.extract,h1];rfl
 split at hs
 ·rename_i vs
  cases hr:vs[n]? with
  | none=>simp [hr] at hs
  | some r=>
   simp only [hr,Lq,Qd,Ld,Lf] at hs;obtain ⟨rfl,rfl⟩:=hs;generalize hax:a.eval x=ax at hrx
   cases hrx with
   | tuple _ C hn hv=>
    have hlt:n<C.size:=by rw [hn];exact (La.1 hr).1
    exact Q4 hH (run C hax hlt) (hv n _ hr)
 ·rename_i vs
  cases hr:vs[n]? with
  | none=>simp [hr] at hs
  | some r=>
   simp only [hr,Lq,Qd,Ld,Lf] at hs;obtain ⟨rfl,rfl⟩:=hs;generalize hax:a.eval x=ax at hrx
   cases hrx with
   | p _ _ hp=>
    cases hp with
    | tuple _ C hn hv=>
     have hlt:n<C.size:=by rw [hn];exact (La.1 hr).1
     exact Q4 hH (run C hax hlt) (.p _ _ (hv n r hr))
 ·cases hs

theorem Qfz (hT:TmOk θ (Qe θ H) w tm a) {xs:List Operand} {y:Opd} (h:Qt xs [y]=true):∃ x,xs = [x]∧RelV θ (Qe θ H) w (Q1 tm y) (a.eval x):=by
 cases xs with
 | nil=>simp [Qt] at h
 | cons x xs=>
  cases xs with
  | nil=>simp [Qt] at h;exact ⟨x,rfl,Qj hT h⟩
  | cons x' xs=>simp [Qt] at h
theorem Q2l (hT:TmOk θ (Qe θ H) w tm a) {xs:List Operand} {y z:Opd} (h:Qt xs [y,z]=true) :
  ∃ x x',xs = [x,x']∧RelV θ (Qe θ H) w (Q1 tm y) (a.eval x)∧RelV θ (Qe θ H) w (Q1 tm z) (a.eval x'):=by
 cases xs with
 | nil=>simp [Qt] at h
 | cons x xs=>
  cases xs with
  | nil=>simp [Qt] at h
  | cons x' xs=>
   cases xs with
   | nil=>simp [Qt] at h;exact ⟨x,x',rfl,Qj hT h.1,Qj hT h.2⟩
   | cons x'' xs=>simp [Qt] at h
theorem Q1f {c:Call} {l:List Operand} (h:c.args.toList=l):c.args=l.toArray:=by
 rw [← h]

theorem Qit (hT:TmOk θ (Qe θ H) w tm a) (hH:Hp θ H w) {c:Call} {x':Opd} {t:TypeId} (hcal:c.callee = .builtin .len) (hx:Qt c.args.toList [x']=true) (hty:c.argTypes[0]? = some t)
  (ht:P.underlying t=some .string) {v:AV} {e:Eff} (hs:Ql Gl tm H na (.lenStr x')=some (v,e)) {o:Oper} (ho:o.op = .call c) :
  Vo θ H w na v e ((execOp a.eval o).run P w):=by
 obtain ⟨x,hargs,hrx⟩:=Qfz hT hx;have hargs:=Q1f hargs;simp only [Ql] at hs;generalize Q1 tm x'=vx at hs hrx;split at hs
 ·rename_i s;simp only [Qd,Ld,Lf] at hs;obtain ⟨rfl,rfl⟩:=hs;refine Q4 hH ?_ (Xv _ _);have e1:=Q3e hrx;have hsz:(⟨⟨s⟩⟩:ByteArray).size=s.length:=rfl;simp [execOp,ho,resolve,hcal,hargs,invoke,builtin,Builtin.len_,hty,e1,run_underlying ht,goInt,hsz,Result.andThen]
 cases hs
theorem Qmb (hT:TmOk θ (Qe θ H) w tm a) (hH:Hp θ H w) {c:Call} {x':Opd} {t d:TypeId} (hcal:c.callee = .builtin .len) (hx:Qt c.args.toList [x']=true) (hty:c.argTypes[0]? = some t)
  (ht:P.underlying t=some (.slice d)) {v:AV} {e:Eff} (hs:Ql Gl tm H na (.lenSl x')=some (v,e)) {o:Oper} (ho:o.op = .call c) :
  Vo θ H w na v e ((execOp a.eval o).run P w):=by
 obtain ⟨x,hargs,hrx⟩:=Qfz hT hx;have hargs:=Q1f hargs
 have run:∀ (ad:Option Addr) (len cap:Nat),a.eval x = .slice ad len cap->(execOp a.eval o).run P w = .ok (.value (.int .i64 len)) w:=by
  intro ad len cap hax;simp [execOp,ho,resolve,hcal,hargs,invoke,builtin,Builtin.len_,hty,hax,run_underlying ht,goInt,Result.andThen]
 simp only [Ql] at hs;generalize Q1 tm x'=vx at hs hrx;split at hs
 ·simp only [Qd,Ld,Lf] at hs;obtain ⟨rfl,rfl⟩:=hs;generalize hax:a.eval x=ax at hrx
  cases hrx with
  | p _ _ hp=>
   cases hp with
   | sliceE _ ad cap _=>exact Q4 hH (run _ _ _ hax) (Xv _ _)
   | slice _ rows blk off cap val he hrl hcap hS hc hone hv=>exact Q4 hH (run _ _ _ hax) (Xv _ _)
 ·simp only [Qd,Ld,Lf] at hs;obtain ⟨rfl,rfl⟩:=hs;exact Q4 hH (run _ _ _ (X9 hrx)) (Xv _ _)
 ·simp only [Qd,Ld,Lf] at hs;obtain ⟨rfl,rfl⟩:=hs;generalize hax:a.eval x=ax at hrx
  cases hrx with
  | slice _ _ _ _ cap lc addr hθ he hlen hsz hadr=>exact Q4 hH (run _ _ _ hax) (Xv _ _)
  | sliceN _ _ _ _=>exact Q4 hH (run _ _ _ hax) (Xv _ _)
 ·simp only [Qd,Ld,Lf] at hs;obtain ⟨rfl,rfl⟩:=hs;obtain ⟨ad,hax⟩:=Q1w hrx;exact Q4 hH (run _ _ _ hax) (Xv _ _)
 cases hs
theorem Qjh (hT:TmOk θ (Qe θ H) w tm a) (hH:Hp θ H w) {c:Call} {x':Opd} {t k d:TypeId} (hcal:c.callee = .builtin .len) (hx:Qt c.args.toList [x']=true) (hty:c.argTypes[0]? = some t)
  (ht:P.underlying t=some (.map k d)) {v:AV} {e:Eff} (hs:Ql Gl tm H na (.lenMap x')=some (v,e)) {o:Oper} (ho:o.op = .call c) :
  Vo θ H w na v e ((execOp a.eval o).run P w):=by
 obtain ⟨x,hargs,hrx⟩:=Qfz hT hx;have hargs:=Q1f hargs
 have run:∀ (r:Nat) (E:Array MapEntry) (clock:Nat),a.eval x = .map (some r)->w.heap[r]? = some (.map E clock)->(execOp a.eval o).run P w = .ok (.value (.int .i64 E.size)) w:=by
  intro r E clock hax hr
  have hg:(getObj r).run P w = .ok (.map E clock) w:=by simp [getObj,Sem.run,hr]
  simp [execOp,ho,resolve,hcal,hargs,invoke,builtin,Builtin.len_,hty,hax,run_underlying ht,goInt,Result.andThen,hg]
 simp only [Ql] at hs;generalize Q1 tm x'=vx at hs hrx;split at hs
 ·simp only [Qd,Ld,Lf] at hs;obtain ⟨rfl,rfl⟩:=hs;generalize hax:a.eval x=ax at hrx
  cases hrx with
  | p _ _ hp=>
   cases hp;exact Q4 (cv := .int .i64 0) hH (by simp [execOp,ho,resolve,hcal,hargs,invoke,builtin,Builtin.len_,hty,hax,run_underlying ht,goInt,Result.andThen]) (Xv _ _)
 ·simp only [Qd,Ld,Lf] at hs;obtain ⟨rfl,rfl⟩:=hs;generalize hax:a.eval x=ax at hrx
  cases hrx with
  | p _ _ hp=>
   cases hp with
   | pmap es r E clock hS hb hn hk hv=>
    have:=run r E clock hax hb;rw [hn] at this;exact Q4 hH this (Xv _ _)
 ·rename_i r
  cases hr:H[r]? with
  | none=>simp [hr] at hs
  | some ob=>
   cases ob<;>simp only [hr] at hs<;>try (cases hs;done)
   simp only [Qd,Ld,Lf] at hs;obtain ⟨rfl,rfl⟩:=hs;generalize hax:a.eval x=ax at hrx
   cases hrx with
   | map _ l hl=>
    obtain ⟨E,clock,h1,h2,h3⟩:=hH.obj r _ l hr hl;have:=run l.blk E clock hax h1;rw [h2] at this;exact Q4 hH this (Xv _ _)
 cases hs
theorem Qqr (hT:TmOk θ (Qe θ H) w tm a) (hH:Hp θ H w) {c:Call} {x' y':Opd} (hcal:c.callee = .builtin .max) (hx:Qt c.args.toList [x',y']=true)
  {v:AV} {e:Eff} (hs:Ql Gl tm H na (.max x' y')=some (v,e)) {o:Oper} (ho:o.op = .call c):Vo θ H w na v e ((execOp a.eval o).run P w):=by
 obtain ⟨x,y,hargs,hrx,hry⟩:=Q2l hT hx;have hargs:=Q1f hargs;simp only [Ql] at hs;generalize Q1 tm x'=vx at hs hrx;generalize Q1 tm y'=vy at hs hry;split at hs
 ·simp only [Qd,Ld,Lf] at hs;obtain ⟨rfl,rfl⟩:=hs;refine Q4 hH ?_ (Xv _ _);have e1:=Vu hrx;have e2:=Vu hry;simp [execOp,ho,resolve,hcal,hargs,invoke,builtin,Builtin.max_,Builtin.max2,e1,e2]
 cases hs
theorem Qp3 (hT:TmOk θ (Qe θ H) w tm a) (hH:Hp θ H w) {c:Call} {x' y':Opd} (hcal:c.callee = .builtin .min) (hx:Qt c.args.toList [x',y']=true)
  {v:AV} {e:Eff} (hs:Ql Gl tm H na (.min x' y')=some (v,e)) {o:Oper} (ho:o.op = .call c):Vo θ H w na v e ((execOp a.eval o).run P w):=by
 obtain ⟨x,y,hargs,hrx,hry⟩:=Q2l hT hx;have hargs:=Q1f hargs;simp only [Ql] at hs;generalize Q1 tm x'=vx at hs hrx;generalize Q1 tm y'=vy at hs hry;split at hs
 ·simp only [Qd,Ld,Lf] at hs;obtain ⟨rfl,rfl⟩:=hs;refine Q4 hH ?_ (Xv _ _);have e1:=Vu hrx;have e2:=Vu hry;simp [execOp,ho,resolve,hcal,hargs,invoke,builtin,Builtin.min_,Builtin.min2,e1,e2]
 cases hs
end
end
end Go.Av
namespace Go.Av
noncomputable section
section
variable {P:Program} {Gl:Nat->Option (List PV)} {θ:Th} {H:List AObj} {w:World} {a:Act} {tm:List AV} {S:Nat->Prop} {na:Nat}

theorem Qfq (N:Nat):∀ (r c:Nat),c≤N+(N+768) / 4->Builtin.growBy N r c≤N+(N+768) / 4
 | 0,c,h=>h
 | r+1,c,h=>by
  simp only [Builtin.growBy];split
  ·exact h
  exact Qfq N r _ (by omega)
theorem Qjm (need cap:Nat) (h:cap<need):Builtin.nextslicecap need cap≤2 * need+512:=by
 unfold Builtin.nextslicecap;split
 ·omega
 split
 ·omega
 have:=Qfq need 4 cap (by omega);omega
theorem Qgk (need cap:Nat) (h:cap<need):Builtin.nextslicecap need cap≤2 * (need+4096):=by
 exact Nk (Qjm need cap h) (by omega)
theorem Qp8 (q m bytes:Nat) (h1:q≤2 * m) (hb:m * bytes≤17592186044416):q * bytes≤281474976710656:=by
 have h2:=Ni bytes h1;rw [Nat.mul_assoc] at h2;generalize m * bytes=x at h2 hb;omega
theorem Qgb (need cap bytes:Nat) (h:cap<need) (hb:(need+4096) * bytes≤17592186044416):Builtin.nextslicecap need cap * bytes≤281474976710656:=
 Qp8 (Builtin.nextslicecap need cap) (need+4096) bytes (Qgk need cap h) hb
theorem Qat (w:World) (need old:Nat) (e:TypeId):need≤grownCap w need old e:=by
 unfold grownCap Question.cut;simp only [];omega

theorem Qsb (hH:Hp θ H w) (hna:AlOk θ H na) {x:Nat} {o o':AObj} {l l':Loc} (ho:H[x]? = some o) (hlive:o.live=true) (hl : θ x=some l) (hb:l'.blk=l.blk)
  (w':World) (hsz:w'.heap.size=w.heap.size) (hsame:∀ c,c≠l.blk->w'.heap[c]? = w.heap[c]?) (hos:w'.os=w.os) (ht:w'.tape=w.tape) (hout:w'.output=w.output)
  (hob:∀ c,o.occ l c↔l.blk=c:=by intro c;exact Iff.rfl) (hoc:∀ c,o'.occ l' c->l'.blk=c:=by intro c h;exact h) :
  (RelObj (upθ θ na l') (Qe (upθ θ na l') (plc (H.set x .dead) na o')) w' o' l'->Hp (upθ θ na l') (plc (H.set x .dead) na o') w')∧Evo θ H w (upθ θ na l') (plc (H.set x .dead) na o') w':=by
 have hle:na≤(H.set x .dead).length:=by simpa using hna.le
 have hnx:na≠x:=by
  rintro rfl
  rcases hna with h | ⟨h,_⟩
  ·have:=(La.1 ho).1;omega
  rw [h] at ho;cases ho;cases hlive
 have hn:=hna.none hH
 have hext:∀ b lb,θ b=some lb->upθ θ na l' b=some lb:=fun b lb e=>by
  by_cases he:b=na
  ·subst he;rw [hn] at e;cases e
  simp [upθ,he,e]
 have get:∀ b ob,(plc (H.set x .dead) na o')[b]? = some ob->(b=na∧ob=o')∨(b≠na∧(b=x∧ob = .dead∨b≠x∧H[b]? = some ob)):=by
  intro b ob hb';rw [Q2k hle] at hb'
  by_cases he:b=na
  ·rw [Af he] at hb';cases hb';exact .inl ⟨he,rfl⟩
  rw [Ae he] at hb'
  by_cases hx:b=x
  ·subst hx;rw [Li (La.1 ho).1] at hb';cases hb';exact .inr ⟨he,.inl ⟨rfl,rfl⟩⟩
  rw [Lg (fun e=>hx e.symm)] at hb';exact .inr ⟨he,.inr ⟨hx,hb'⟩⟩
 have hnl:∀ c,c<w.heap.size->NL θ H c->NL (upθ θ na l') (plc (H.set x .dead) na o') c∧w'.heap[c]? = w.heap[c]? := by
  intro c hc hf;have hne:=hf x o l ho hlive hl;refine ⟨fun b ob lb hb' hbl hθ=>?_,hsame c (fun e=>hne ((hob c).2 e.symm))⟩
  rcases get b ob hb' with ⟨rfl,rfl⟩ | ⟨h1,⟨_,rfl⟩ | ⟨_,h2⟩⟩
  ·simp only [upθ,Ak,Ld] at hθ;subst hθ;exact fun e=>hne ((hob c).2 (hb▸hoc c e))
  ·cases hbl
  simp only [upθ,Ae h1] at hθ;exact hf b ob lb h2 hbl hθ
 have hfree:∀ c,c<w.heap.size->Qe θ H c->Qe (upθ θ na l') (plc (H.set x .dead) na o') c∧w'.heap[c]? = w.heap[c]? := fun c hc hf=>⟨⟨hf.1,(hnl c hc hf.2).1⟩,(hnl c hc hf.2).2⟩;refine ⟨fun hnew=>⟨?_,?_,?_,?_,?_,fun b R e hb'=>?_⟩,⟨hext,rfl,hnl,by omega,hos,ht,hout⟩⟩
 rotate_right
 ·rcases get b _ hb' with ⟨rfl,_⟩ | ⟨h1,⟨_,h2⟩ | ⟨_,h2⟩⟩
  ·exact ⟨l',by simp [upθ]⟩
  ·cases h2
  exact (hH.tok b R e h2).imp fun _ e=>hext _ _ e
 ·intro b ob lb hb' hlb
  rcases get b ob hb' with ⟨rfl,rfl⟩ | ⟨h1,⟨_,rfl⟩ | ⟨h3,h2⟩⟩
  ·simp only [upθ,Ak,Ld] at hlb;subst hlb;exact hnew
  ·trivial
  simp only [upθ,Ae h1] at hlb;exact (hH.obj b ob lb h2 hlb).mono hext hfree (fun hbl c hc=>hsame _ (fun e=>hH.dist b x ob o lb l h2 ho hbl hlive hlb hl h3 c hc ((hob c).2 e.symm))) (by omega)
 ·intro p q op oq lp lq hp hq hpl hql htp htq hne
  have key:∀ z oz lz,(plc (H.set x .dead) na o')[z]? = some oz->oz.live=true->upθ θ na l' z=some lz->(z=na∧∀ c,oz.occ lz c->o.occ l c)∨(z≠na∧z≠x∧H[z]? = some oz ∧ θ z=some lz):=by
   intro z oz lz hz hzl htz
   rcases get z oz hz with ⟨rfl,rfl⟩ | ⟨h1,⟨_,rfl⟩ | ⟨h3,h2⟩⟩
   ·simp only [upθ,Ak,Ld] at htz;subst htz;exact .inl ⟨rfl,fun c e=>(hob c).2 (hb▸hoc c e)⟩
   ·cases hzl
   simp only [upθ,Ae h1] at htz;exact .inr ⟨h1,h3,h2,htz⟩
  rcases key p op lp hp hpl htp with ⟨e1,e2⟩ | ⟨p1,p2,p3,p4⟩<;>rcases key q oq lq hq hql htq with ⟨f1,f2⟩ | ⟨q1,q2,q3,q4⟩
  ·omega
  ·exact fun c h1 h2=>hH.dist q x oq o lq l q3 ho hql hlive q4 hl q2 c h2 (e2 c h1)
  ·exact fun c h1 h2=>hH.dist p x op o lp l p3 ho hpl hlive p4 hl p2 c h1 (f2 c h2)
  exact hH.dist p q op oq lp lq p3 q3 hpl hql p4 q4 hne
 ·intro b hb';have h1:=(Q3p (H:=H.set x .dead) (na:=na) o').1;have h2:=(Q3p (H:=H.set x .dead) (na:=na) o').2 hle;simp at h1
  have:b≠na:=by omega
  simp only [upθ,Ae this];exact hH.fresh b (by omega)
 ·intro b ob lb hb' hbl hlb
  rcases get b ob hb' with ⟨rfl,rfl⟩ | ⟨h1,⟨_,rfl⟩ | ⟨_,h2⟩⟩
  ·simp only [upθ,Ak,Ld] at hlb;subst hlb;exact fun c hc=>hH.good x o l ho hlive hl c ((hob c).2 (hb▸hoc c hc))
  ·cases hbl
  simp only [upθ,Ae h1] at hlb;exact hH.good b ob lb h2 hbl hlb
 ·intro c hc;rw [hsz];exact hH.badlt c hc

theorem Q0k {β:Type} {e:Nat} (he:0<e):∀ (rows:List (List β)),(∀ r∈rows,r.length=e)->rows.flatten.length=rows.length * e∧∀ k,rows.flatten[k]? = (rows[k / e]?).bind (·[k % e]?)
 | [],_=>⟨by simp,fun k=>by simp⟩
 | r::rows,h=>by
  have hr:=h r (by simp);obtain ⟨h1,h2⟩:=Q0k he rows (fun q hq=>h q (by simp [hq]));refine ⟨by simp only [Nj,Mw,hr,h1,Mo,Be];omega,fun k=>?_⟩;simp only [Nj]
  by_cases hk:k<e
  ·rw [Lh (by omega),Nat.div_eq_of_lt hk,Nat.mod_eq_of_lt hk];simp
  ·rw [Lm (by omega),hr,h2]
   have e1:k / e=(k - e) / e+1:=by
    rw [← Nat.sub_add_cancel (show e≤k by omega),Nat.add_div_right _ he];simp
   have e2:k % e=(k - e) % e:=by
    conv=>lhs;rw [← Nat.sub_add_cancel (show e≤k by omega),Nat.add_mod_right]
   rw [e1,e2];simp

theorem Qi6 {esz:Nat} {rows:List (List PV)} {blk off:Nat} {val:Nat->Nat->Value} (he:0<esz) (hr:∀ r∈rows,r.length=esz)
  (hc:∀ (i:Nat) (r:List PV),rows[i]? = some r->∀ (j:Nat) (x:PV),r[j]? = some x->w.cell? ⟨blk,off+(i * esz+j),none⟩=some (val i j))
  (h1:∀ i j,(val i j).oneCell'=true) (hv:∀ (i:Nat) (r:List PV),rows[i]? = some r->∀ (j:Nat) (x:PV),r[j]? = some x->RelP S w x (val i j)) :
  ∃ vs,vs.length=rows.length * esz∧RelVs θ S w (rows.flatten.map .p) vs∧∀ (j:Nat) u,vs[j]? = some u->w.cell? ⟨blk,off+j,none⟩=some u:=by
 obtain ⟨hl,hg⟩:=Q0k he rows hr
 have split:∀ k,k<rows.length * esz->∃ r x,rows[k / esz]? = some r∧r[k % esz]? = some x∧rows.flatten[k]? = some x:=by
  intro k hk
  have h2:k / esz<rows.length:=by rw [Bv he];exact hk
  have h3:k % esz<(rows[k / esz]).length:=by rw [hr _ (Cp h2)];exact Nat.mod_lt _ he
  refine ⟨_,(rows[k / esz])[k % esz],Lc h2,Lc h3,?_⟩;rw [hg,Lc h2];simp [h3]
 refine ⟨(List.range (rows.length * esz)).map fun k=>val (k / esz) (k % esz),by simp,.ofP (by simp [hl]) (fun c hc=>?_) (fun k x hx=>?_),fun k u hk=>?_⟩
 ·obtain ⟨k,_,rfl⟩:=Mm.1 hc;exact h1 _ _
 ·have hlt:k<rows.length * esz:=by rw [← hl];exact (La.1 hx).1
  obtain ⟨r,y,e1,e2,e3⟩:=split k hlt;rw [hx] at e3;cases e3;rw [Le];simp [hlt];exact hv _ r e1 _ _ e2
 ·rw [Lk] at hk
  by_cases hlt:k<rows.length * esz
  ·simp [hlt] at hk;obtain ⟨r,y,e1,e2,e3⟩:=split k hlt;rw [← hk,← hc _ r e1 _ y e2]
   congr 2
   rw [Nat.mul_comm,Nat.div_add_mod]
  ·simp [hlt] at hk

theorem Qp7 {tx:TypeId} {i:TypeInfo} {esz:Nat} (hsz:i.size=esz) (he:0<esz) (hk:(∃ e',P.underlying tx=some (.slice e'))∨P.underlying tx=some .string)
  (hH:Hp θ H w) (hG:GlobOK Gl θ H w) {vx:AV} {cx:Value} (hr:RelV θ (Qe θ H) w vx cx) {s:AV} {v:AV} {e:Eff} {bytes:Nat}
  (hs:Qb2 H na esz bytes s vx=some (v,e)) :
  ∃ new n news,Qbr H na esz bytes s new n=some (v,e)∧RelVs θ (Qe θ H) w new news∧Src P i.size tx cx n news w:=by
 subst hsz
 have mk:∀ (ad:Addr) (n cap:Nat) (news:List Value),news.length=n * i.size->(∀ u∈news,u.oneCell'=true)->(∀ (j:Nat) u,news[j]? = some u->w.cell? (ad.add j)=some u)->Src P i.size tx (.slice (some ad) n cap) n news w:=
  fun ad n cap news h1 h2 h3=>⟨hk,fun _=>rfl,run_firstCells_some w i.size n ad n cap news h1 h3,run_firstCells_some w.drew i.size n ad n cap news h1 (by simpa using h3),h1,h2⟩
 have mk0:∀ (cap:Nat),Src P i.size tx (.slice none 0 cap) 0 [] w:=
  fun cap=>⟨hk,fun _=>rfl,run_firstCells_none w i.size 0 0 cap,run_firstCells_none w.drew i.size 0 0 cap,by simp,fun _ h=>by cases h⟩
 unfold Qb2 at hs;split at hs
 ·rename_i es b off n
  cases hob:H[b]? with
  | none=>simp [hob] at hs
  | some ob=>
   cases ob<;>simp only [hob] at hs<;>try (cases hs;done)
   rename_i cs;split at hs
   ·rename_i hes;subst hes
    cases ht:Gd (n * i.size) (cs.drop off) with
    | none=>simp [ht] at hs
    | some new=>
     simp only [ht,Lq] at hs;obtain ⟨rfl,hlen⟩:=Jr ht
     cases hr with
     | sliceN _ _ _ oa=>exact ⟨_,0,[],hs,by simpa using RelVs.nil,(match oa with | none=>mk0 0 | some ad=>mk ad 0 0 [] (by simp) (fun _ h=>by cases h) (fun j u h=>by simp at h))⟩
     | slice _ _ _ _ cap lc addr hθ he' hle hsize hadr=>
      obtain ⟨ad,vs,e1,_,hrel,hcell⟩:=Jw (v := .ptr b off) (cv := .pointer (some ⟨lc.blk,lc.off+off,none⟩)) hH hG (.ptr b off lc hθ) (cs:=cs.drop off) (by simp [Vb,hob]);cases e1;refine ⟨_,n,vs.take (n * i.size),hs,hrel.take _,?_⟩;have hl:=(hrel.take (n * i.size)).1;rw [hlen] at hl
      rcases hadr with rfl | hc0
      ·exact mk _ n cap _ hl (hrel.take _).2.1 (fun j u hj=>hcell j u (by
        rw [Lz] at hj;split at hj
        ·exact hj
        cases hj))
      have:n=0:=by omega
      subst this;simp at hl ⊢;exact mk addr 0 cap [] (by simp) (by simp) (by simp)
   cases hs
 ·rename_i es rows;split at hs
  ·rename_i hes;subst hes
   cases hr with
   | p _ _ hp=>
    cases hp with
    | sliceE _ ad cap _=>
     refine ⟨_,0,[],hs,by simpa using RelVs.nil,?_⟩
     cases ad with
     | none=>exact mk0 cap
     | some ad=>exact mk ad 0 cap [] (by simp) (by simp) (by simp)
    | slice _ _ blk off cap val he' hrl hcap hS hc hone hv=>
     obtain ⟨vs,h1,h2,h3⟩:=Qi6 (θ := θ) he' hrl hc hone hv;exact ⟨_,_,vs,hs,h2,mk _ _ cap vs h1 h2.2.1 (fun j u hj=>by rw [Addr.add_lit];exact h3 j u hj)⟩
  cases hs
 ·have:=X9 hr;subst this;exact ⟨_,0,[],hs,.nil,mk0 0⟩
 ·obtain ⟨ad,rfl⟩:=Q1w hr;refine ⟨_,0,[],hs,.nil,?_⟩
  cases ad with
  | none=>exact mk0 0
  | some ad=>exact mk ad 0 0 [] (by simp) (by simp) (by simp)
 ·obtain ⟨ad,cap,rfl⟩:=Qk2 hr;exact ⟨_,0,[],hs,.nil,mk ad 0 cap [] (by simp) (by simp) (by simp)⟩
 ·rename_i b;split at hs
  ·rename_i h1;have:=Q3e hr;subst this;refine ⟨_,b.length,b.map fun c => .int .u8 c.toNat,hs,⟨by simp,fun c hc=>?_,fun j x hx=>?_⟩,?_⟩
   ·obtain ⟨y,_,rfl⟩:=Mm.1 hc;rfl
   ·rw [Lk] at hx
    cases hb:b[j]? with
    | none=>simp [hb] at hx
    | some y=>
     simp [hb] at hx;subst hx;rw [Le,Lk,hb];exact Xv _ _
   have hz:(⟨⟨b⟩⟩:ByteArray).size=b.length:=rfl;have hb:byteCells ⟨⟨b⟩⟩=b.map fun c=>Value.int .u8 c.toNat:=rfl;have c1:=firstCells_string (P:=P) ⟨⟨b⟩⟩ w;have c2:=firstCells_string (P:=P) ⟨⟨b⟩⟩ w.drew;rw [hb,hz] at c1 c2;rw [h1];exact ⟨hk,fun _=>rfl,c1,c2,by simp,fun u hu=>by obtain ⟨y,_,rfl⟩:=Mm.1 hu;rfl⟩
  cases hs
 ·cases hs

set_option maxHeartbeats 800000 in
theorem Q71 (hT:TmOk θ (Qe θ H) w tm a) (hH:Hp θ H w) (hG:GlobOK Gl θ H w) (hna:AlOk θ H na) {c:Call} {s' x':Opd} {t u d:TypeId} {i:TypeInfo} {z:Value} {esz bytes:Nat} (hcal:c.callee = .builtin .append)
  (hx:Qt c.args.toList [s',x']=true) (hty:c.argTypes.toList = [t,u]) (ht:P.underlying t=some (.slice d)) (hi:P.info? d=some i) (hsz:i.size=esz) (hby:i.bytes=bytes) (he:0<esz) (hbp:0<bytes)
  (hz:i.zero=some z) (hzc:z.cells.size=esz) (hk:(∃ e',P.underlying u=some (.slice e'))∨P.underlying u=some .string)
  {v:AV} {e:Eff} (hs:Ql Gl tm H na (.append esz bytes s' x')=some (v,e)) {o:Oper} (ho:o.op = .call c):Vo θ H w na v e ((execOp a.eval o).run P w):=by
 obtain ⟨sx,x,hargs,hrs,hrx⟩:=Q2l hT hx;have hargs:=Q1f hargs
 have hty':c.argTypes = #[t,u]:=by rw [← hty]
 simp only [Ql] at hs;obtain ⟨new,n,news,hadd,hnew,hsrc⟩:=Qp7 (Gl:=Gl) hsz he hk hH hG hrx hs
 have run:∀ r w',(Builtin.append_ #[t,u] o.type #[a.eval sx,a.eval x]).run P w = .ok r w'->(execOp a.eval o).run P w = .ok (.value r) w':=by
  intro r w' h;simp [execOp,ho,resolve,hcal,hargs,invoke,builtin,hty',h,Result.andThen]
 have hnl:=hsrc.newsLen;generalize Q1 tm s'=vs at hadd hrs;unfold Qbr at hadd;split at hadd
 ·rename_i hn0;subst hn0;have hnil:news = []:=Bf (by rw [hnl];simp);subst hnil
  have nothing:∀ (ad:Option Addr) (len cap:Nat),a.eval sx = .slice ad len cap->len≤cap->(execOp a.eval o).run P w = .ok (.value (a.eval sx)) w:=by
   intro ad len cap hax hle;apply run;rw [hax];exact run_append_nothing w t u o.type d i ht hi ad len cap hle _ hsrc
  generalize hax:a.eval sx=ax at hrs nothing
  split at hadd<;>try (cases hadd;done)
  all_goals
   simp only [Ld,Lf] at hadd;obtain ⟨rfl,rfl⟩:=hadd
  ·have:=X9 hrs;subst this;exact Q4 hH (nothing _ _ _ rfl (by omega)) hrs
  ·have hrs':=hrs
   cases hrs with
   | p _ _ hp=>
    cases hp with
    | sliceE _ ad cap _=>exact Q4 hH (nothing _ _ _ rfl (by omega)) hrs'
    | slice _ _ blk off cap val he' hrl hcap hS hc hone hv=>exact Q4 hH (nothing _ _ _ rfl hcap) hrs'
  ·have hrs':=hrs
   cases hrs with
   | slice _ _ _ _ cap lc addr hθ he' hle hsize hadr=>exact Q4 hH (nothing _ _ _ rfl hle) hrs'
   | sliceN _ _ _ _=>exact Q4 hH (nothing _ _ _ rfl (by omega)) hrs'
  obtain ⟨ad,rfl⟩:=Q1w hrs;exact Q4 hH (nothing _ _ _ rfl (by omega)) hrs
 rename_i hn0
 -- a new row
 have grow:∀ (ad:Option Addr) (len cap:Nat) (H':List AObj) (cs:List AV) (olds:List Value),a.eval sx = .slice ad len cap->cap<len+n->(len+n+4096) * bytes≤17592186044416->cs.length=len * esz ->
   (Builtin.firstCells i.size len (.slice ad len cap)).run P w.drew = .ok olds.toArray w.drew->Hp θ H' w->AlOk θ H' na->RelVs θ (Qe θ H') w (cs++new) (olds++news) ->
   Vo θ H' w na (.slice esz na 0 (len+n)) { new:=some (.cells (cs++new)) } ((execOp a.eval o).run P w):=by
  intro ad len cap H' cs olds hax hcap hfit hlen hold hH' hna' hrel
  have hg:=run_append_grow_src (P:=P) w t u o.type d i z ht hi hz ad len cap olds hold _ n news hsrc hcap (by
   have h1:len+n+4096≤(len+n+4096) * bytes:=Nat.le_mul_of_pos_right _ hbp
   omega) (by rw [hby];exact Qgb _ _ _ hcap hfit)
  rw [← hax] at hg;have hcapge:=Qat w (len+n) cap d
  have hzl:(Builtin.zeroCells z.cells (grownCap w (len+n) cap d - (len+n))).toList.length=(grownCap w (len+n) cap d - (len+n)) * esz:=by
   simp [Builtin.zeroCells,hzc]
  refine Q6f (n:=w.drawn+1) (t:=d) (cv := .slice (some ⟨w.heap.size,0,none⟩) (len+n) (grownCap w (len+n) cap d)) hH' hna' (Builtin.zeroCells z.cells (grownCap w (len+n) cap d - (len+n))).toList hrel ?_ (fun θ' S w' hθ=>?_)
  ·rw [run _ _ hg]
   have e:(olds++news).toArray++Builtin.zeroCells z.cells (grownCap w (len+n) cap d - (len+n))=((olds++news)++(Builtin.zeroCells z.cells (grownCap w (len+n) cap d - (len+n))).toList).toArray:=by
    apply Array.ext';simp
   rw [e];rfl
  refine .slice _ _ _ _ _ _ _ hθ he hcapge ?_ (.inl rfl);have h1:=hrel.1;simp only [Mw] at h1;rw [hzl];simp only [Mw]
  have:(len+n) * esz+(grownCap w (len+n) cap d - (len+n)) * esz=grownCap w (len+n) cap d * esz:=by rw [← Be];congr 1;omega
  have h2:new.length=n * esz:=by have:=hnew.1;rw [hnl,hsz] at this;omega
  rw [Be] at this;omega
 split at hadd<;>try (cases hadd;done)
 ·split at hadd
  ·rename_i hfit;simp only [Ld,Lf] at hadd;obtain ⟨rfl,rfl⟩:=hadd;have:=grow none 0 0 H [] [] (X9 hrs) (by omega) (by simpa using hfit) (by simp) (run_firstCells_none _ _ _ _ _) hH hna (by simpa using hnew);simpa using this
  cases hadd
 ·rename_i es b off len
  cases hob:H[b]? with
  | none=>simp [hob] at hadd
  | some ob=>
   cases ob<;>simp only [hob] at hadd<;>try (cases hadd;done)
   rename_i cs;split at hadd
   ·rename_i hc;obtain ⟨rfl,htip,hfit⟩:=hc;simp only [Ld,Lf] at hadd;obtain ⟨rfl,rfl⟩:=hadd;generalize hax:a.eval sx=ax at hrs
    cases hrs with
    | sliceN _ _ _ oa=>
     obtain ⟨hk1,hk2⟩:=Qcs hH hob rfl
     have hna':AlOk θ (H.set b .dead) na:=by
      rcases hna with h | ⟨h,h'⟩
      ·exact .inl (by simpa using h)
      refine .inr ⟨?_,h'⟩
      by_cases hb:na=b
      ·subst hb;rw [hob] at h;cases h
      rw [Lg (fun e=>hb e.symm)];exact h
     have hd0:cs.drop off = []:=List.drop_eq_nil_of_le (by omega);have hg:=grow oa 0 0 (H.set b .dead) [] [] hax (by omega) hfit (by simp) (by cases oa with | none=>exact run_firstCells_none _ _ _ _ _ | some ad=>exact run_firstCells_some _ _ 0 ad 0 0 [] (by simp) (fun j u h=>by simp at h)) hk1 hna' (by simpa using hnew.mono hk2.ext hk2.free);obtain ⟨cv,w',θ',g1,g2,g3,g4,g5,g6⟩:=hg;rw [hd0];exact ⟨cv,w',θ',g1,g2,g3,hk2.trans g4,g5,fun h=>by cases h⟩
    | slice _ _ _ _ cap lc addr hθ he' hle hsize hadr=>
     obtain ⟨ad,vs,e1,_,hrel,hcell⟩:=Jw (v := .ptr b off) (cv := .pointer (some ⟨lc.blk,lc.off+off,none⟩)) hH hG (.ptr b off lc hθ) (cs:=cs.drop off) (by simp [Vb,hob]);cases e1
     have hdl:(cs.drop off).length=len * es:=by simp;omega
     by_cases hroom:len+n≤cap
     ·-- in place
      have hadr':addr=⟨lc.blk,lc.off+off,none⟩:=by rcases hadr with h | h;exact h;omega
      subst hadr';obtain ⟨C,ct,fz,h1,h2,h3,h4,h5⟩:=hH.obj b _ lc hob hθ;have hmul:(len+n) * es≤cap * es:=Ni _ hroom;rw [Be] at hmul
      have hnl':news.length=n * es:=by rw [hnl,hsz]
      have hr:=run_append_room_src (P:=P) w t u o.type d i ht hi lc.blk (lc.off+off) len cap _ n news hsrc hroom (fun j hj=>by
        unfold World.cell?
        have:lc.off+off+len * i.size+j<C.size:=by rw [hsz];omega
        simp [h1,this]) (fun j hj=>Q7y h1 h3 (by rw [hsz];omega))
      rw [← hax] at hr;obtain ⟨C',c1,c2,c3⟩:=Q2t lc.blk ct fz news (lc.off+off+len * i.size) w C h1 (by rw [hsz];omega);obtain ⟨m1,m2,m3,m4⟩:=Q2r lc.blk news (lc.off+off+len * i.size) w;have hre:=Qsb (o' := .cells (cs.drop off++new)) (l':=⟨lc.blk,lc.off+off,lc.size⟩) hH hna hob rfl hθ rfl (w.setCells lc.blk (lc.off+off+len * i.size) news) m1 (fun c hc=>Q1m _ _ hc _ _ _) m2 m3 m4;have hrn:=hnew.mono hre.2.ext hre.2.free;have hro:=hrel.mono hre.2.ext hre.2.free;refine ⟨_,_,_,.inl (run _ _ hr),?_,hre.1 ?_,hre.2,fun q hq=>by simp [upθ,hq],fun h=>by cases h⟩
      ·exact .slice _ _ _ _ _ ⟨lc.blk,lc.off+off,lc.size⟩ _ (by simp [upθ]) he hroom (by simp only [Nc];omega) (.inl rfl)
      refine ⟨C',ct,fz,c1,c2.trans h2,fun j hj=>h3 j (by omega),?_,fun j y hj=>?_⟩
      ·simp only [Mw,hdl];have:=hnew.1;omega
      show RelV _ _ _ y (C'.getD (lc.off+off+j) Qc)∧(C'.getD (lc.off+off+j) Qc).oneCell'=true;rw [hsz] at c3;rw [c3]
      have hval:∀ j,j<len * es->C.getD (lc.off+off+j) Qc=vs.getD j Qc:=by
       intro j hj
       have hvl:j<vs.length:=by rw [hrel.1,hdl];exact hj
       have:=hcell j vs[j] (Lc hvl);rw [Addr.add_lit] at this;unfold World.cell? at this;simp only [h1] at this;simp at this;rw [Lo,this,Le,Lc hvl]
      by_cases hjl:j<len * es
      ·rw [Lh (by omega)] at hj;rw [Ae (by omega),hval j hjl];refine ⟨hro.2.2 j y hj,hro.2.1 _ ?_⟩
       have hvl:j<vs.length:=by rw [hrel.1,hdl];exact hjl
       rw [Le,Lc hvl];simp
      rw [Lm (by omega),hdl] at hj;have hlt:=(La.1 hj).1;have hn1:=hnew.1;rw [Af (by omega)]
      have e3:lc.off+off+j - (lc.off+off+len * es)=j - len * es:=by omega
      rw [e3];refine ⟨hrn.2.2 _ y hj,hrn.2.1 _ ?_⟩;rw [Le,Lc (by omega)];simp
     -- a new row
     obtain ⟨hk1,hk2⟩:=Qcs hH hob rfl
     have hna':AlOk θ (H.set b .dead) na:=by
      rcases hna with h | ⟨h,h'⟩
      ·exact .inl (by simpa using h)
      refine .inr ⟨?_,h'⟩
      by_cases hb:na=b
      ·subst hb;rw [hob] at h;cases h
      rw [Lg (fun e=>hb e.symm)];exact h
     have hold:(Builtin.firstCells i.size len (.slice (some addr) len cap)).run P w.drew = .ok vs.toArray w.drew:=by
      refine run_firstCells_some w.drew i.size len addr len cap vs (by rw [hrel.1,hdl,hsz]) (fun j u hj=>?_)
      rcases hadr with rfl | hc0
      ·exact hcell j u hj
      have:len=0:=by omega
      subst this;have hlt:=(La.1 hj).1;rw [hrel.1,hdl] at hlt;omega
     have hg:=grow (some addr) len cap (H.set b .dead) (cs.drop off) vs hax (by omega) hfit hdl hold hk1 hna' ((hrel.append hnew).mono hk2.ext hk2.free);obtain ⟨cv,w',θ',g1,g2,g3,g4,g5,g6⟩:=hg;exact ⟨cv,w',θ',g1,g2,g3,hk2.trans g4,g5,fun h=>by cases h⟩
   cases hadd
 split at hadd
 ·rename_i hfit;simp only [Ld,Lf] at hadd;obtain ⟨rfl,rfl⟩:=hadd;obtain ⟨ad,hax⟩:=Q1w hrs
  have hold:(Builtin.firstCells i.size 0 (.slice ad 0 0)).run P w.drew = .ok ([]:List Value).toArray w.drew:=by
   cases ad with
   | none=>exact run_firstCells_none _ _ _ _ _
   | some ad=>exact run_firstCells_some w.drew i.size 0 ad 0 0 [] (by simp) (fun j u hj=>by simp at hj)
  have:=grow ad 0 0 H [] [] hax (by omega) (by simpa using hfit) (by simp) hold hH hna (by simpa using hnew);simpa using this
 cases hadd
end
end
end Go.Av
namespace Go.Av
noncomputable section
section
variable {P:Program} {Gl:Nat->Option (List PV)} {θ:Th} {H:List AObj} {w:World} {a:Act} {tm:List AV} {S:Nat->Prop} {na:Nat}

theorem Q9p (off:Nat):∀ (vs:List Value) (i:Nat) (cs:Array Value),off+i+vs.length≤cs.size ->
  ((vs.zipIdx i).foldl (fun cs (p:Value×Nat)=>cs.setIfInBounds (off+p.2) p.1) cs).size=cs.size ∧
  ∀ j,((vs.zipIdx i).foldl (fun cs (p:Value×Nat)=>cs.setIfInBounds (off+p.2) p.1) cs)[j]? = if off+i≤j∧j<off+i+vs.length then vs[j - (off+i)]? else cs[j]?
 | [],i,cs,_=>⟨rfl,fun j=>by
  have:¬ (off+i≤j∧j<off+i+([]:List Value).length):=by simp
  rw [Ae this];rfl⟩
 | v::vs,i,cs,h=>by
  simp only [Mo] at h;obtain ⟨h1,h2⟩:=Q9p off vs (i+1) (cs.setIfInBounds (off+i) v) (by simp;omega);rw [List.zipIdx_cons,Bp];refine ⟨h1.trans (by simp),fun j=>?_⟩;rw [h2];simp only [Mo]
  by_cases hj:j=off+i
  ·subst hj;rw [Ae (by omega),Af (by omega),Array.getElem?_setIfInBounds_self];rw [Af (by omega),Bw];rfl
  ·by_cases hr:off+(i+1)≤j∧j<off+(i+1)+vs.length
   ·rw [Af hr,Af (by omega)];obtain ⟨m,hm⟩:∃ m,j - (off+i)=m+1:=⟨j - (off+i) - 1,by omega⟩
    have:j - (off+(i+1))=m:=by omega
    rw [hm,this];rfl
   ·rw [Ae hr,Ae (by omega),Array.getElem?_setIfInBounds_ne (fun e=>hj e.symm)]

theorem Qm2 (off:Nat) (vs:List Value) (cs:Array Value) (h:off+vs.length≤cs.size) :
  ((vs.zipIdx 0).foldl (fun cs (p:Value×Nat)=>cs.setIfInBounds (off+p.2) p.1) cs).toList=cs.toList.take off++(vs++cs.toList.drop (off+vs.length)):=by
 obtain ⟨h1,h2⟩:=Q9p off vs 0 cs (by omega);apply Mb;intro j;rw [Bj,h2];simp only [Nc]
 have hcs:off≤cs.toList.length:=by simp;omega
 by_cases hj1:j<off
 ·rw [Ae (by omega),Lh (by simp;omega),Lz,Af hj1];simp
 ·rw [Lm (by rw [Mq];omega)]
  have e1:j - (cs.toList.take off).length=j - off:=by rw [Mq];omega
  rw [e1]
  by_cases hj2:j - off<vs.length
  ·rw [Af (by omega),Lh hj2]
  ·rw [Ae (by omega),Lm (by omega),Ly]
   have:off+vs.length+(j - off - vs.length)=j:=by omega
   rw [this];simp

theorem Qja {cs v:List AV} {vs us:List Value} (h:RelVs θ S w cs vs) (hv:RelVs θ S w v us) (off:Nat):RelVs θ S w (Ua cs off v) (vs.take off++(us++vs.drop (off+us.length))):=by
 unfold Ua;rw [hv.1];exact (h.take off).append (hv.append (h.drop _))

theorem Qe9 (place:Nat->Option (Nat×Nat)):∀ (l:List (Nat×Value)) (C D:Array Value),Instr.fill place C l=some D->D.size=C.size
 | [],C,D,h=>by simp [Instr.fill] at h;rw [h]
 | (i,v)::r,C,D,h=>by
  simp only [Instr.fill] at h
  cases hp:place i with
  | none=>simp [hp] at h
  | some om=>
   obtain ⟨o,m⟩:=om;simp only [hp] at h;split at h
   ·cases h
   ·rename_i hc;rw [Qe9 place r _ D h,← Array.foldl_toList];have h1:=(Q9p o v.cells.toList 0 C (by simp at hc;simp;omega)).1
    have hz:(v.cells.zipIdx).toList=v.cells.toList.zipIdx 0:=by simp
    rw [hz];exact h1

theorem Q8u (hT:TmOk θ (Qe θ H) w tm a) (place:Nat->Option (Nat×Nat)):∀ (ps:List (Nat×Operand)) (qs:List (Nat×Nat×Opd)) (cells:List AV) (C:Array Value) (out:List AV),Ja place ps qs=true ->
  RelVs θ (Qe θ H) w cells C.toList->Q1e tm cells qs=some out ->
  ∃ D,Instr.fill place C (ps.map fun (i,x)=>(i,a.eval x))=some D∧RelVs θ (Qe θ H) w out D.toList
 | [],[],cells,C,out,_,hc,hs=>by
  simp only [Q1e,Ld] at hs;subst hs;exact ⟨C,rfl,hc⟩
 | (i,x)::ps,(off,n,y)::qs,cells,C,out,hk,hc,hs=>by
  simp only [Ja,Lb] at hk;obtain ⟨⟨h1,h2⟩,h3⟩:=hk
  cases hp:place i with
  | none=>simp [hp] at h1
  | some om=>
   obtain ⟨o',m⟩:=om;simp [hp] at h1;obtain ⟨rfl,rfl⟩:=h1;simp only [Q1e] at hs
   cases hv:(Q1 tm y).cells? with
   | none=>simp [hv] at hs
   | some v=>
    simp only [hv] at hs;split at hs
    ·rename_i hle;obtain ⟨hl,hle⟩:=hle;have hr:=Q6h (Qj hT h2) hv;have hcl:=hc.1;have hrl:=hr.1;simp at hcl hrl;have hf:=Qm2 o' (a.eval x).cells.toList C (by simp;omega)
     have hz:((a.eval x).cells.zipIdx).toList=(a.eval x).cells.toList.zipIdx 0:=by simp
     obtain ⟨D,hd1,hd2⟩:=Q8u hT place ps qs (Ua cells o' v) ((a.eval x).cells.zipIdx.foldl (fun cs (c,j)=>cs.setIfInBounds (o'+j) c) C) out h3 (by
      have e:((a.eval x).cells.zipIdx.foldl (fun cs (c,j)=>cs.setIfInBounds (o'+j) c) C).toList=C.toList.take o'++((a.eval x).cells.toList++C.toList.drop (o'+(a.eval x).cells.toList.length)):=by
       rw [← hf,← Array.foldl_toList,hz]
      rw [e]
      exact Qja hc hr o') hs
     refine ⟨D,?_,hd2⟩;simp only [Mx,Instr.fill,hp];rw [Ae (by simp;omega)];exact hd1
    cases hs
 | [],_::_,_,_,_,h,_,_=>by simp [Ja] at h
 | _::_,[],_,_,_,h,_,_=>by simp [Ja] at h

theorem Qlp (hT:TmOk θ (Qe θ H) w tm a) (hH:Hp θ H w) {t:TypeId} {z:List PV} {ps:Array (Nat×Operand)} {qs:List (Nat×Nat×Opd)} (hz:Q53 P t z=true)
  (hd:(∃ fs:Array Field,P.underlying t=some (.struct fs)∧(∀ f∈fs,(P.info? f.type).isSome=true)∧Ja (fun i=>fs[i]?.map fun f=>(f.offset,Q28 P f.type)) ps.toList qs=true) ∨
   ∃ n e,P.underlying t=some (.array n e)∧(P.info? e).isSome=true∧Ja (fun i=>some (i * Q28 P e,Q28 P e)) ps.toList qs=true)
  {v:AV} {e:Eff} (hs:Ql Gl tm H na (.build z qs)=some (v,e)) {o:Oper} (ho:o.op = .build t ps):Vo θ H w na v e ((execOp a.eval o).run P w):=by
 simp only [Ql] at hs
 cases hf:Q1e tm (z.map .p) qs with
 | none=>simp [hf] at hs
 | some out=>
  simp only [hf,Lq,Qd,Ld,Lf] at hs;obtain ⟨rfl,rfl⟩:=hs;obtain ⟨i,zv,hi,hz1,hz2⟩:=Q2c hz;have hz3:=Q6y (P:=P) hi hz1 w
  have szr:∀ (u:TypeId) (w:World),(P.info? u).isSome=true->(sizeOf u).run P w = .ok (Q28 P u) w:=by
   intro u w hu
   cases hiu:P.info? u with
   | none=>simp [hiu] at hu
   | some iu=>simp [sizeOf,typeInfo,hiu,Q28]
  rcases hd with ⟨fs,ht,hfs,hck⟩ | ⟨n,el,ht,hel,hck⟩
  ·obtain ⟨D,hD1,hD2⟩:=Q8u hT _ _ _ _ zv.cells out hck (Q6a hz2) hf;refine Q4 (cv := .agg D) hH ?_ (by have:=Q5n hD2;simpa using this)
   have hm:∀ (l:List Field),(∀ f∈l,(P.info? f.type).isSome=true)->(l.mapM (m:=Sem) fun (f:Field)=>do pure (f.offset,← sizeOf f.type)).run P w = .ok (l.map fun (f:Field)=>(f.offset,Q28 P f.type)) w:=by
    intro l
    induction l with
    | nil=>intro _;simp
    | cons f l ih=>
     intro hl;have h1:=szr f.type w (hl f (by simp));have h2:=ih (fun g hg=>hl g (by simp [hg]));simp [h1,Result.andThen] at h2 ⊢;rw [h2]
   have hm':(fs.mapM (m:=Sem) fun (f:Field)=>do pure (f.offset,← sizeOf f.type)).run P w = .ok (fs.map fun (f:Field)=>(f.offset,Q28 P f.type)) w:=by
    have h1:=hm fs.toList (fun f hf=>hfs f (by simpa using hf));rw [Cl,Sem.run_map,h1];show Result.ok _ w=_
    congr 1
    apply Array.ext';simp
   have hp:(fun (i:Nat)=>(fs.map fun (f:Field)=>(f.offset,Q28 P f.type))[i]?)=(fun (i:Nat)=>fs[i]?.map fun (f:Field)=>(f.offset,Q28 P f.type)):=by
    funext i;simp
   have hps:(ps.map fun (i,x)=>(i,a.eval x)).toList=ps.toList.map fun (i,x)=>(i,a.eval x):=by simp
   have hD1':Instr.fill (fun i=>(fs.map fun (f:Field)=>(f.offset,Q28 P f.type))[i]?) zv.cells (ps.map fun (i,x)=>(i,a.eval x)).toList=some D:=by rw [hp,hps];exact hD1
   simp only [execOp,ho,Instr.build,Sem.run_bind,hz3,Result.andThen,run_underlying ht,hm',hD1',Sem.run_pure]
  ·obtain ⟨D,hD1,hD2⟩:=Q8u hT _ _ _ _ zv.cells out hck (Q6a hz2) hf;refine Q4 (cv := .agg D) hH ?_ (by have:=Q5n hD2;simpa using this);have h1:=szr el w hel
   have hps:(ps.map fun (i,x)=>(i,a.eval x)).toList=ps.toList.map fun (i,x)=>(i,a.eval x):=by simp
   have hD1':Instr.fill (fun i=>some (i * Q28 P el,Q28 P el)) zv.cells (ps.map fun (i,x)=>(i,a.eval x)).toList=some D:=by rw [hps];exact hD1
   simp only [execOp,ho,Instr.build,Sem.run_bind,hz3,Result.andThen,run_underlying ht,h1,hD1',Sem.run_pure]

theorem Q55 (z:List Value) (n:Nat) (hz:0<z.length):((Array.range (n * z.length)).map (fun i=>z.toArray[i % z.length]!)).toList=(List.replicate n z).flatten:=by
 have hu:∀ r∈List.replicate n z,r.length=z.length:=fun r hr=>by rw [Cq hr]
 obtain ⟨h1,h2⟩:=Q0k hz (List.replicate n z) hu;rw [Bk] at h1;apply Mb;intro k;rw [h2];simp only [Array.toList_map,Array.toList_range,Lk]
 by_cases hk:k<n * z.length
 ·have hd:k / z.length<n:=by rw [Bv hz];exact hk
  have hm:=Nat.mod_lt k hz;rw [Ce hk,Mi,Af hd];simp only [Mc,Lq];rw [Lc hm,getElem!_pos z.toArray _ (by simpa using hm)];simp
 ·have hd:¬ k / z.length<n:=by rw [Bv hz];exact hk
  rw [Md (by simpa using Nat.le_of_not_lt hk),Mi,Ae hd];rfl

theorem Qcr {z:List PV} {vs:List Value} (h:RelVs θ S w (z.map .p) vs):∀ n:Nat,RelVs θ S w ((List.replicate n z).flatten.map .p) (List.replicate n vs).flatten
 | 0=>by simpa using RelVs.nil
 | n+1=>by
  rw [Bo,Bo,Nj,Nj,Ct];exact h.append (Qcr h n)

theorem Qb6 (hT:TmOk θ (Qe θ H) w tm a) (hH:Hp θ H w) (hna:AlOk θ H na) {t d:TypeId} {z:List PV} {len esz:Nat} {ps:Array (Nat×Operand)} {qs:List (Nat×Nat×Opd)} (ht:P.underlying t=some (.slice d)) (hsz:Q4r P d esz=true)
  (hz:Q53 P d z=true) (hzl:z.length=esz) (he:0<esz) (hlim:len * esz≤1048576) (hck:Ja (fun i=>some (i * esz,esz)) ps.toList qs=true)
  {v:AV} {e:Eff} (hs:Ql Gl tm H na (.buildSlice z len esz qs)=some (v,e)) {o:Oper} (ho:o.op = .buildSlice t len ps):Vo θ H w na v e ((execOp a.eval o).run P w):=by
 simp only [Ql] at hs
 cases hf:Q1e tm ((List.replicate len z).flatten.map .p) qs with
 | none=>rw [hf] at hs;cases hs
 | some out=>
  simp only [hf,Mc,Ld,Lf] at hs;obtain ⟨rfl,rfl⟩:=hs;obtain ⟨i,zv,hi,hz1,hz2⟩:=Q2c hz;have hz3:=Q6y (P:=P) hi hz1 w;have hs1:=W9 hsz w;have hzr:=Q6a (θ := θ) (S:=Qe θ H) (w:=w) hz2
  have hzl':zv.cells.toList.length=esz:=by rw [hzr.1];simpa using hzl
  have hpos:0<zv.cells.toList.length:=by omega
  have hflat:=Q55 zv.cells.toList len hpos;rw [hzl'] at hflat
  obtain ⟨D,hD1,hD2⟩:=Q8u hT _ _ _ _ ((Array.range (len * esz)).map (fun i=>zv.cells[i % zv.cells.size]!)) out hck (by
   have e:((Array.range (len * esz)).map (fun i=>zv.cells[i % zv.cells.size]!)).toList=(List.replicate len zv.cells.toList).flatten:=by
    rw [← hflat]
    have:zv.cells.size=esz:=by simpa using hzl'
    rw [this]
   rw [e]
   exact Qcr hzr len) hf
  have hD1':Instr.fill (fun i=>some (i * esz,esz)) ((Array.range (len * esz)).map (fun i=>zv.cells[i % zv.cells.size]!)) (ps.map fun (i,x)=>(i,a.eval x)).toList=some D:=by
   have hps:(ps.map fun (i,x)=>(i,a.eval x)).toList=ps.toList.map fun (i,x)=>(i,a.eval x):=by simp
   rw [hps];exact hD1
  have hDs:D.size=len * esz:=by
   have h1:=Qe9 _ _ _ _ hD1';rw [h1];simp
  have hnot:¬ (len * esz>2 ^ 24):=by omega
  refine Q6f (n:=w.drawn) (t:=d) (cv := .slice (some ⟨w.heap.size,0,none⟩) len len) hH hna [] hD2 ?_ (fun θ' S w' h => .slice _ _ _ _ _ _ _ h he (Lj _) (by simp;omega) (.inl rfl))
  have hfin:Result.ok (Next.value (.slice (some ⟨w.heap.size,0,none⟩) len len)) { w with heap:=w.heap.push (.cells D d) } = .ok (.value (.slice (some ⟨w.heap.size,0,none⟩) len len)) { w with heap:=w.heap.push (.cells (D.toList ++ []).toArray d),drawn:=w.drawn }:=by simp
  rw [← hfin]
  by_cases h0:len * esz=0
  ·have hD0:Instr.fill (fun i=>some (i * esz,esz)) ((Array.range (len * esz)).map (fun i=>(#[]:Array Value)[i % (#[]:Array Value).size]!)) (ps.map fun (i,x)=>(i,a.eval x)).toList=some D:=by
    rw [← hD1',h0,show Array.range 0 = #[] from by simp,Bz,Bz]
   simp only [execOp,ho,Instr.buildSlice,Sem.run_bind,run_underlying ht,hs1,Result.andThen,Ae hnot,Af h0,Sem.run_pure,hD0,newRow,run_newObj]
  ·simp only [execOp,ho,Instr.buildSlice,Sem.run_bind,run_underlying ht,hs1,Result.andThen,hz3,hD1',Ae hnot,Ae h0,Sem.run_pure,newRow,run_newObj]

theorem Qg6 (hH:Hp θ H w) (hna:AlOk θ H na) {t:TypeId} {v:AV} {e:Eff} (hs:Ql Gl tm H na .makeMap=some (v,e)) {o:Oper} (ho:o.op = .makeMap t none) :
  Vo θ H w na v e ((execOp a.eval o).run P w):=by
 simp only [Ql,Ld,Lf] at hs;obtain ⟨rfl,rfl⟩:=hs;refine Q8r (n:=w.drawn) (cv := .map (some w.heap.size)) hH hna (.map #[] 0) (.map []) ⟨w.heap.size,0,0⟩ rfl ?_ (fun θ' S w' h => .map na _ h) (fun θ' S' h1 h2=>?_)
 ·simp [execOp,ho,Instr.makeMap,Result.andThen]
 ·exact ⟨#[],0,by simp,by simp,.nil,fun i k v h=>by simp at h⟩

theorem Qbv (n:Int) (h0:0≤n) (h1:n≤1099511627776):IntKind.i64.wrap n=n:=
 IntWalk.i64_in n (by omega)

theorem Qd6 (hT:TmOk θ (Qe θ H) w tm a) (hH:Hp θ H w) (hna:AlOk θ H na) {t d:TypeId} {z:List PV} {bytes:Nat} {l c:Operand} {l' c':Opd} (ht:P.underlying t=some (.slice d)) (hz:Q53 P d z=true)
  (hsz:Q4r P d z.length=true) (hby:Q5g P d bytes=true) (hzl:0<z.length) (hbp:0<bytes) (hl:Q7 l l'=true) (hc:Q7 c c'=true)
  {v:AV} {e:Eff} (hs:Ql Gl tm H na (.makeSlice z bytes l' c')=some (v,e)) {o:Oper} (ho:o.op = .makeSlice t l c):Vo θ H w na v e ((execOp a.eval o).run P w):=by
 simp only [Ql] at hs;have hrl:=Qj hT hl;have hrc:=Qj hT hc;generalize Q1 tm l'=vl at hs hrl;generalize Q1 tm c'=vc at hs hrc;split at hs
 ·rename_i kl n kc m;split at hs
  ·rename_i hb;obtain ⟨b1,b2,b3⟩:=hb;simp only [Ld,Lf] at hs;obtain ⟨rfl,rfl⟩:=hs;obtain ⟨i,zv,hi,hz1,hz2⟩:=Q2c hz;have hz3:=Q6y (P:=P) hi hz1 w;have hs1:=W9 hsz w
   have hby':i.bytes=bytes:=by
    unfold Q5g at hby;simp [hi] at hby;exact hby
   have hzr:=Q6a (θ := θ) (S:=Qe θ H) (w:=w) hz2
   have hzl':zv.cells.toList.length=z.length:=by rw [hzr.1];simp
   have hpos:0<zv.cells.toList.length:=by omega
   have hm40:m≤1099511627776:=by
    have:m * 1≤m * bytes:=Int.mul_le_mul_of_nonneg_left (by omega) (by omega);omega
   have w1:=Qbv n b1 (by omega);have w2:=Qbv m (by omega) hm40;have hflat:=Q55 zv.cells.toList m.toNat hpos;rw [hzl'] at hflat
   have hsplit:(List.replicate m.toNat zv.cells.toList).flatten=(List.replicate n.toNat zv.cells.toList).flatten++(List.replicate (m.toNat - n.toNat) zv.cells.toList).flatten:=by
    rw [← List.flatten_append,List.replicate_append_replicate]
    congr 2;omega
   have hcells:(Array.range (m.toNat * z.length)).map (fun i=>zv.cells[i % zv.cells.size]!)=((List.replicate n.toNat zv.cells.toList).flatten++(List.replicate (m.toNat - n.toNat) zv.cells.toList).flatten).toArray:=by
    apply Array.ext';rw [← hsplit,← hflat]
    have:zv.cells.size=z.length:=by simpa using hzl'
    rw [this]
   have hlen1:∀ k:Nat,((List.replicate k zv.cells.toList).flatten).length=k * z.length:=by
    intro k;have:=(Q0k hzl (List.replicate k zv.cells.toList) (fun r hr=>by rw [Cq hr,hzl'])).1;rw [this,Bk]
   refine Q6f (n:=w.drawn) (t:=d) (cv := .slice (some ⟨w.heap.size,0,none⟩) n.toNat m.toNat) hH hna (List.replicate (m.toNat - n.toNat) zv.cells.toList).flatten (Qcr hzr n.toNat) ?_
    (fun θ' S w' h => .slice _ _ _ _ _ _ _ h hzl (by omega) (by
     rw [hlen1,hlen1,← Be]
     have:n.toNat+(m.toNat - n.toNat)=m.toNat:=by omega
     rw [this];simp) (.inl rfl))
   rw [← hcells]
   have t1:¬ (281474976710656<(bytes:Int) * m):=by rw [Int.mul_comm];omega
   have t2:¬ m<0:=by omega
   have t3:¬ n<0:=by omega
   have t4:¬ m<n:=by omega
   have e1:=Vu hrl;have e2:=Vu hrc
   have hroom:∀ b,(askRoom b).run P w = .ok () w:=by
    intro b;unfold askRoom;split<;>rfl
   simp [execOp,ho,Instr.makeSlice,run_underlying ht,e1,e2,asInt,asIntOf,typeInfo,hi,hby',w1,w2,t1,t2,t3,t4,hroom,hs1,Result.andThen,newRow]
   by_cases h0:m.toNat * z.length=0
   ·rw [Af h0,h0,show Array.range 0 = #[] from by simp,Bz,Bz]
   rw [Ae h0,hz3]
  cases hs
 ·cases hs

theorem Qgn (A:Array Obj) (x:Obj) (f:Obj->Obj):(A.push x).modify A.size f=A.push (f x):=by
 apply Array.ext_getElem?;intro i;rw [Mu,Ny,Ny]
 by_cases h:A.size=i
 ·subst h;simp
 ·rw [Ae h,Ae (fun e=>h e.symm),Ae (fun e=>h e.symm)]

theorem Qkx {θ:Th} {S:Nat->Prop} {w:World} (s:List UInt8):RelVs θ S w (s.map fun b => .p (.int .u8 b.toNat)) (s.map fun b => .int .u8 b.toNat):=by
 refine ⟨by simp,fun c hc=>?_,fun j x hx=>?_⟩
 ·obtain ⟨b,_,rfl⟩:=Mm.1 hc;rfl
 ·rw [Lk] at hx
  cases hb:s[j]? with
  | none=>rw [hb] at hx;cases hx
  | some b=>
   rw [hb] at hx;cases hx
   have:(s.map fun b:UInt8=>Value.int .u8 b.toNat).getD j Qc = .int .u8 b.toNat:=by
    rw [Le,Lk,hb];rfl
   rw [this];exact .p _ _ (.int _ _)

theorem Qge (hT:TmOk θ (Qe θ H) w tm a) (hH:Hp θ H w) (hna:AlOk θ H na) {s d el:TypeId} (hsrc:P.underlying s=some .string) (hd:P.underlying d=some (.slice el)) (hel:P.underlying el=some (.int .u8)) {x:Operand} {x':Opd} (hx:Q7 x x'=true)
  {v:AV} {e:Eff} (hs:Ql Gl tm H na (.bytesOf x')=some (v,e)) {o:Oper} (ho:o.op = .convert s d x):Vo θ H w na v e ((execOp a.eval o).run P w):=by
 simp only [Ql] at hs;have hrx:=Qj hT hx;generalize Q1 tm x'=vx at hs hrx;split at hs
 ·rename_i b;simp only [Ld,Lf] at hs;obtain ⟨rfl,rfl⟩:=hs;have e1:=Q3e hrx
  let cap:=grownCap w b.length 0 el
  have hcap:b.length≤cap:=Qat w b.length 0 el
  let vs:List Value:=b.map fun b => .int .u8 b.toNat
  let extra:List Value:=List.replicate (cap - b.length) (.int .u8 0)
  have hvs:vs.length=b.length:=by simp [vs]
  have hC:((⟨b⟩:Array UInt8).map fun b=>Value.int .u8 b.toNat)++Array.replicate (cap - b.length) (.int .u8 0)=(vs++extra).toArray:=by
   apply Array.ext';simp [vs,extra]
  have hsz:(vs++extra).toArray.size=cap:=by simp [vs,extra];omega
  refine Q8r (n:=w.drawn+1) (cv := .slice (some ⟨w.heap.size,0,none⟩) b.length cap) hH hna (.cells (vs++extra).toArray el (cap,cap+1)) (.cells (b.map fun b => .p (.int .u8 b.toNat))) ⟨w.heap.size,0,cap⟩ rfl ?_
   (fun θ' S w' h => .slice 1 na 0 b.length cap _ _ h (by omega) hcap (by simp) (.inl rfl)) (fun θ' S' h1 h2=>?_)
  ·have hq:(Question.appendCap b.length 0 el).forced=false:=rfl;have hcut:(Question.appendCap b.length 0 el).cut (w.tape w.drawn (.appendCap b.length 0 el))=cap:=rfl;have hbs:(⟨⟨b⟩⟩:ByteArray).size=b.length:=rfl;simp only [execOp,ho,e1,convert,Sem.run_bind,run_underlying hsrc,run_underlying hd,run_underlying hel,Result.andThen,Conv.stringToBytes,hbs,run_choose,hq,hcut,Lu,Al,newRow,run_newObj,hC,markStringish,run_shape]
   have hsh:({ heap:=w.heap.push (Obj.cells (vs++extra).toArray el),tape:=w.tape,drawn:=w.drawn+1,os:=w.os,output:=w.output }:World).shape? w.heap.size=some (el,cap):=by
    simp only [World.shape?,Array.getElem?_push_size,hsz]
   simp only [Sem.run_pure,hsh,run_freeze,World.freeze,Qgn];simp
  have hr:=Qkx (θ := θ) (S:=Qe θ H) (w:=w) b;refine ⟨(vs++extra).toArray,el,(cap,cap+1),by simp,hsz,fun j hj=>by rw [hsz] at hj;simp;omega,by simp only [Mg];rw [hsz];omega,fun j v hj=>?_⟩;have hlt:=(La.1 hj).1;have hv':=hr.mono h1 h2
  have e:(vs++extra).toArray.getD (0+j) Qc=vs.getD j Qc:=by
   rw [Lo,Le];simp only [Lv,List.getElem?_toArray];rw [Lh (by rw [hvs];simpa using hlt)]
  rw [e];refine ⟨hv'.2.2 j v hj,hr.2.1 _ ?_⟩;rw [Le,Lc (by rw [hvs];simpa using hlt)];exact Cp _
 ·cases hs

end
end
end Go.Av
namespace Go.Av
noncomputable section
section
variable {P:Program} {Gl:Nat->Option (List PV)} {θ:Th} {H:List AObj} {w:World} {a:Act} {tm:List AV} {S:Nat->Prop} {na:Nat}
theorem Qb4 (s:ByteArray) (m:Nat) (w':World):(Builtin.firstCells 1 m (.string s)).run P w' = .ok ((byteCells s).take m).toArray w':=by
 simp [Builtin.firstCells,byteCells];apply Array.ext';simp
theorem Qmg (hH:Hp θ H w) (hG:GlobOK Gl θ H w) {vx:AV} {cx:Value} (hr:RelV θ (Qe θ H) w vx cx) {new:List AV} (hs:Qkp H vx=some new) :
  ∃ news:List Value,RelVs θ (Qe θ H) w new news∧(Builtin.lenOf cx).run P w = .ok new.length w∧∀ m,m≤new.length->(Builtin.firstCells 1 m cx).run P w = .ok (news.take m).toArray w:=by
 have mk:∀ (ad:Addr) (n cap:Nat) (news:List Value),news.length=n->(∀ (j:Nat) u,news[j]? = some u->w.cell? (ad.add j)=some u) ->
   ∀ m,m≤n->(Builtin.firstCells 1 m (.slice (some ad) n cap)).run P w = .ok (news.take m).toArray w:=fun ad n cap news h1 h2 m hm=>
  run_firstCells_some w 1 m ad n cap (news.take m) (by rw [Mq];omega) (fun j u hj=>h2 j u (by
   rw [Lz] at hj;split at hj
   ·exact hj
   cases hj))
 unfold Qkp at hs;split at hs
 ·rename_i es b off n
  cases hob:H[b]? with
  | none=>simp [hob] at hs
  | some ob=>
   cases ob<;>simp only [hob] at hs<;>try (cases hs;done)
   rename_i cs;split at hs
   ·rename_i hes;subst hes;obtain ⟨rfl,hlen⟩:=Jr hs
    cases hr with
    | sliceN _ _ _ oa=>exact ⟨[],by simpa using RelVs.nil,by simp [Builtin.lenOf],fun m hm=>by
      have:m=0:=by simpa using hm
      subst this
      cases oa with
      | none=>exact run_firstCells_none w 1 0 0 0
      | some ad=>exact run_firstCells_some w 1 0 ad 0 0 [] (by simp) (fun j u h=>by simp at h)⟩
    | slice _ _ _ _ cap lc addr hθ he' hle hsize hadr=>
     obtain ⟨ad,vs,e1,_,hrel,hcell⟩:=Jw (v := .ptr b off) (cv := .pointer (some ⟨lc.blk,lc.off+off,none⟩)) hH hG (.ptr b off lc hθ) (cs:=cs.drop off) (by simp [Vb,hob]);cases e1;have hl:=(hrel.take n).1;rw [hlen] at hl;refine ⟨vs.take n,hrel.take _,by rw [hlen];rfl,?_⟩;rw [hlen]
     rcases hadr with rfl | hc0
     ·exact mk _ n cap _ hl (fun j u hj=>hcell j u (by
       rw [Lz] at hj;split at hj
       ·exact hj
       cases hj))
     have:n=0:=by omega
     subst this;intro m hm
     have:m=0:=by omega
     subst this;have:=mk addr 0 cap [] rfl (fun j u hj=>by simp at hj) 0 (Lj _);simpa using this
   cases hs
 ·rename_i es rows;split at hs
  ·rename_i hes;subst hes;cases hs
   cases hr with
   | p _ _ hp=>
    cases hp with
    | sliceE _ ad cap _=>
     refine ⟨[],by simpa using RelVs.nil,by simp [Builtin.lenOf],?_⟩;intro m hm
     have:m=0:=by simpa using hm
     subst this
     cases ad with
     | none=>exact run_firstCells_none w 1 0 0 cap
     | some ad=>simpa using mk ad 0 cap [] rfl (fun j u hj=>by simp at hj) 0 (Lj _)
    | slice _ _ blk off cap val he' hrl hcap hS hc hone hv=>
     obtain ⟨vs,h1,h2,h3⟩:=Qi6 (θ := θ) he' hrl hc hone hv
     have hln:(rows.flatten.map AV.p).length=rows.length:=by rw [← h2.1,h1];simp
     refine ⟨vs,h2,by rw [hln];rfl,?_⟩;rw [hln];exact mk _ _ cap vs (by rw [h1];simp) (fun j u hj=>by rw [Addr.add_lit];exact h3 j u hj)
  cases hs
 ·cases hs;have:=X9 hr;subst this;refine ⟨[],.nil,rfl,fun m hm=>?_⟩
  have:m=0:=by simpa using hm
  subst this;exact run_firstCells_none w 1 0 0 0
 ·rename_i b;cases hs;have:=Q3e hr;subst this;refine ⟨b.map fun c => .int .u8 c.toNat,⟨by simp,fun c hc=>?_,fun j x hx=>?_⟩,?_,fun m hm=>?_⟩
  ·obtain ⟨y,_,rfl⟩:=Mm.1 hc;rfl
  ·rw [Lk] at hx
   cases hb:b[j]? with
   | none=>simp [hb] at hx
   | some y=>
    simp [hb] at hx;subst hx;rw [Le,Lk,hb];exact Xv _ _
  ·rw [Mg];rfl
  exact Qb4 (P:=P) ⟨⟨b⟩⟩ m w
 cases hs
theorem Qna (hT:TmOk θ (Qe θ H) w tm a) (hH:Hp θ H w) (hG:GlobOK Gl θ H w) {c:Call} {d' s':Opd} {t u d:TypeId} {i:TypeInfo} (hcal:c.callee = .builtin .copy)
  (hx:Qt c.args.toList [d',s']=true) (hty:c.argTypes.toList = [t,u]) (ht:P.underlying t=some (.slice d)) (hi:P.info? d=some i) (hsz:i.size=1)
  {v:AV} {e:Eff} (hs:Ql Gl tm H na (.copyB d' s')=some (v,e)) {o:Oper} (ho:o.op = .call c):Vo θ H w na v e ((execOp a.eval o).run P w):=by
 obtain ⟨sx,x,hargs,hrs,hrx⟩:=Q2l hT hx;have hargs:=Q1f hargs
 have hty':c.argTypes = #[t,u]:=by rw [← hty]
 simp only [Ql] at hs
 cases hsr:Qkp H (Q1 tm s') with
 | none=>simp [hsr] at hs
 | some new=>
  simp only [hsr,Lq] at hs;obtain ⟨news,h1,h2,h3⟩:=Qmg (P:=P) hH hG hrx hsr
  have run:∀ r w',(Builtin.copy_ #[t,u] o.type #[a.eval sx,a.eval x]).run P w = .ok r w'->(execOp a.eval o).run P w = .ok (.value r) w':=by
   intro r w' h;simp [execOp,ho,resolve,hcal,hargs,invoke,builtin,hty',h,Result.andThen]
  generalize Q1 tm d'=vd at hs hrs;unfold Qg9 at hs;split at hs
  ·cases hs;have hax:=X9 hrs;refine ⟨.int .i64 0,w,θ,.inl (run _ _ ?_),?_,hH,.refl _ _ _,fun _ _=>rfl,fun _=>rfl⟩
   ·rw [hax];have hm:Nat.min new.length 0=0:=Nat.min_zero _;have h30:=h3 0 (Nh _);simp [Builtin.copy_,run_underlying ht,h2,sizeOf,typeInfo,hi,hsz,h30,goInt]
   exact Xv _ _
  ·rename_i es b off len
   cases hob:H[b]? with
   | none=>simp [hob] at hs
   | some ob=>
    cases ob<;>simp only [hob] at hs<;>try (cases hs;done)
    rename_i cs;split at hs
    ·rename_i hc;obtain ⟨rfl,hle,hl1⟩:=hc;cases hs;generalize hax:a.eval sx=ax at hrs
     cases hrs with
     | sliceN _ _ _ _=>exact absurd hl1 (by omega)
     | slice _ _ _ _ cap lc addr hθ he' hle2 hsize hadr=>
      rcases hadr with rfl | hc0
      ·have htk:(new.take len).length=Nat.min new.length len:=by rw [Mq,Nat.min_comm]
       have hrel:=h1.take len;obtain ⟨w1,w2,w3⟩:=Qe7 hH hob hθ hrel (off:=off) (by rw [Mq];omega);refine ⟨.int .i64 ((new.take len).length:Nat),_,θ,.inl (run _ _ ?_),Xv _ _,w2,w3,fun _ _=>rfl,fun _=>rfl⟩;have h30:=h3 (Nat.min new.length len) (Nat.min_le_left _ _)
       have hnl:news.take (Nat.min new.length len)=news.take len:=by
        have hnn:=h1.1
        by_cases hq:len≤new.length
        ·rw [show Nat.min new.length len=len from Nat.min_eq_right hq]
        rw [show Nat.min new.length len=new.length from Nat.min_eq_left (by omega),Mt (by omega),Mt (by omega)]
       rw [hnl] at h30;rw [hax];simp [Builtin.copy_,run_underlying ht,h2,sizeOf,typeInfo,hi,hsz,h30,goInt,w1 P,htk]
      omega
    cases hs
  cases hs
theorem Qe8 (hT:TmOk θ (Qe θ H) w tm a) (hH:Hp θ H w) {t d:TypeId} {n esz:Nat} {x:Operand} {lo hi:Option Operand} {x':Opd} {lo' hi':Option Opd} (hx:Q7 x x'=true) (hlo:Vt lo lo'=true) (hhi:Vt hi hi'=true)
  (ht:P.underlying t=some (.array n d)) (hd:Q4r P d esz=true) (he:0<esz) {v:AV} {e:Eff} (hs:Ql Gl tm H na (.sliceArr n esz x' lo' hi')=some (v,e)) {o:Oper} (ho:o.op = .slice t x lo hi none):Vo θ H w na v e ((execOp a.eval o).run P w):=by
 simp only [Ql] at hs;have hrx:=Qj hT hx
 have run:∀ (ad:Addr) (l h:Nat),a.eval x = .pointer (some ad)->Q4m 0 (lo'.map (Q1 tm))=some l->Q4m n (hi'.map (Q1 tm))=some h->l≤h->h≤n ->
   (execOp a.eval o).run P w = .ok (.value (.slice (some (if n=l then ad else ad.add (l * esz))) (h - l) (n - l))) w:=by
  intro ad l h hax hl hh h1 h2;have hz:=W9 hd w
  rcases G7 hT hlo hl with ⟨rfl,rfl⟩ | ⟨zl,kl,ml,rfl,el,l0,rfl⟩<;>rcases G7 hT hhi hh with ⟨rfl,rfl⟩ | ⟨zh,kh,mh,rfl,eh,h0,rfl⟩
  ·simp [execOp,ho,hax,Instr.sliceAt,Instr.slice,Instr.sliceBounds,Instr.sureAddr,run_underlying ht,Result.andThen,hz]
  ·have b1:mh≤n:=by omega
   simp [execOp,ho,hax,Instr.sliceAt,Instr.slice,Instr.sliceBounds,Instr.sliceBound,Instr.sureAddr,run_underlying ht,Result.andThen,hz,eh,asIntOf,h0,b1]
  ·simp [execOp,ho,hax,Instr.sliceAt,Instr.slice,Instr.sliceBounds,Instr.sliceBound,Instr.sureAddr,run_underlying ht,Result.andThen,el,asIntOf,l0];rw [Af (by omega)];simp [hz]
  have b1:mh≤n:=by omega
  simp [execOp,ho,hax,Instr.sliceAt,Instr.slice,Instr.sliceBounds,Instr.sliceBound,Instr.sureAddr,run_underlying ht,Result.andThen,el,eh,asIntOf,l0,h0,b1];rw [Af (by omega)];simp [hz]
 generalize hvx:Q1 tm x'=vx at hs hrx;split at hs
 ·rename_i b off;split at hs
  ·rename_i cs hob;split at hs
   ·rename_i l h hl hh;split at hs
    ·rename_i hle;obtain ⟨h0,h1,h2⟩:=hle;simp only [Qd,Ld,Lf] at hs;obtain ⟨rfl,rfl⟩:=hs;generalize hax:a.eval x=ax at hrx
     cases hrx with
     | ptr _ _ lc hθ=>
      obtain ⟨C,t',fz,q1,q2,q3,q4,q5⟩:=hH.obj b _ lc hob hθ;refine Q4 hH (run _ l h hax hl hh h1 h2) ?_
      have hmul:l * esz+(n - l) * esz=n * esz:=by rw [← Be];congr 1;omega
      by_cases hc:n=l
      ·rw [Af hc];exact .slice _ _ _ _ _ lc _ hθ he (by omega) (by omega) (.inr (by omega))
      rw [Ae hc];simp only [Addr.add_lit];exact .slice _ _ _ _ _ lc _ hθ he (by omega) (by omega) (.inl (by rw [Ng]))
    cases hs
   cases hs
  cases hs
 cases hs
theorem Qmy (hH:Hp θ H w) {b:Nat} {cs:List AV} (ho:H[b]? = some (.cells cs)) (n:Nat):Hp θ (H.set b (.cells (cs.take n))) w∧Evo θ H w θ (H.set b (.cells (cs.take n))) w:=by
 have hlt:=(La.1 ho).1
 have back:∀ (c:Nat) o,(H.set b (.cells (cs.take n)))[c]? = some o->o.live=true->∃ o',H[c]? = some o'∧o'.live=true∧∀ l x,o.occ l x->o'.occ l x:=fun c o h hl=>by
  by_cases hcb:c=b
  ·subst hcb;rw [Li hlt] at h;cases h;exact ⟨_,ho,rfl,fun _ _ e=>e⟩
  rw [Lg (fun e=>hcb e.symm)] at h;exact ⟨o,h,hl,fun _ _ e=>e⟩
 have nl:∀ c,NL θ H c->NL θ (H.set b (.cells (cs.take n))) c:=fun c h c' o l hc' hl hθ=>by
  obtain ⟨o',h1,h2,h3⟩:=back c' o hc' hl;exact fun e=>h c' o' l h1 h2 hθ (h3 _ _ e)
 have e:Evo θ H w θ (H.set b (.cells (cs.take n))) w:=⟨fun _ _ h=>h,rfl,fun c _ h=>⟨nl c h,rfl⟩,Lj _,rfl,rfl,rfl⟩
 refine ⟨⟨fun c o l hc hl=>?_,fun c d oc od lc ld hc hd hlc hld=>?_,fun c hc=>hH.fresh c (by simpa using hc),fun c o l hc hl=>?_,hH.badlt,fun c R x hc=>by
  by_cases hcb:c=b
  ·subst hcb;rw [Li hlt] at hc;cases hc
  rw [Lg (fun e=>hcb e.symm)] at hc;exact hH.tok c R x hc⟩,e⟩
 ·by_cases hcb:c=b
  ·subst hcb;rw [Li hlt] at hc;cases hc;have:=(hH.obj c _ l ho hl).mono e.ext e.free (fun _ _ _=>rfl) (Lj _);obtain ⟨C,t,fz,h1,h2,h3,h4,h5⟩:=this;refine ⟨C,t,fz,h1,h2,h3,by rw [Mq];omega,fun j v hv=>h5 j v ?_⟩;rw [Lz] at hv;split at hv
   ·exact hv
   cases hv
  rw [Lg (fun e=>hcb e.symm)] at hc;exact (hH.obj c o l hc hl).mono e.ext e.free (fun _ _ _=>rfl) (Lj _)
 ·obtain ⟨oc',h1,h2,h5⟩:=back c oc hc hlc;obtain ⟨od',h3,h4,h6⟩:=back d od hd hld;exact fun t1 t2 ne x x1 x2=>hH.dist c d oc' od' lc ld h1 h3 h2 h4 t1 t2 ne x (h5 _ _ x1) (h6 _ _ x2)
 obtain ⟨o',h1,h2,h3⟩:=back c o hc hl;exact fun t x hx=>hH.good c o' l h1 h2 t x (h3 _ _ hx)
theorem Qgr (hT:TmOk θ (Qe θ H) w tm a) (hH:Hp θ H w) (hG:GlobOK Gl θ H w) (hna:AlOk θ H na) {c:Call} {s' x':Opd} {t u d:TypeId} {i:TypeInfo} {z:Value} {esz bytes:Nat} (hcal:c.callee = .builtin .append)
  (hx:Qt c.args.toList [s',x']=true) (hty:c.argTypes.toList = [t,u]) (ht:P.underlying t=some (.slice d)) (hi:P.info? d=some i) (hsz:i.size=esz) (hby:i.bytes=bytes) (he:0<esz) (hbp:0<bytes)
  (hz:i.zero=some z) (hzc:z.cells.size=esz) (hk:(∃ e',P.underlying u=some (.slice e'))∨P.underlying u=some .string)
  {v:AV} {e:Eff} (hs:Ql Gl tm H na (.appendT esz bytes s' x')=some (v,e)) {o:Oper} (ho:o.op = .call c):Vo θ H w na v e ((execOp a.eval o).run P w):=by
 simp only [Ql] at hs
 by_cases hsl:∃ es b off len,Q1 tm s' = .slice es b off len
 ·obtain ⟨es,b,off,len,hv⟩:=hsl;rw [hv] at hs;simp only [Qgg] at hs;split at hs
  ·rename_i cs hob;split at hs
   ·cases hq:Qb2 (H.set b (.cells (cs.take (off+len * esz)))) na esz bytes (.slice es b off len) (Q1 tm x') with
    | none=>simp [hq] at hs
    | some q=>
     obtain ⟨v',e'⟩:=q;simp only [hq,Mc,Ld,Lf] at hs;obtain ⟨rfl,rfl⟩:=hs;obtain ⟨h1,h2⟩:=Qmy hH hob (off+len * esz)
     have hna':AlOk θ (H.set b (.cells (cs.take (off+len * esz)))) na:=by
      rcases hna with rfl | ⟨q1,q2⟩
      ·exact .inl (by simp)
      refine .inr ⟨?_,q2⟩
      by_cases hnb:na=b
      ·subst hnb;rw [hob] at q1;cases q1
      rw [Lg (fun e=>hnb e.symm)];exact q1
     have hs':Ql Gl tm (H.set b (.cells (cs.take (off+len * esz)))) na (.append esz bytes s' x')=some (v',e'):=by
      simp only [Ql];rw [hv];exact hq
     obtain ⟨cv,w',θ',r1,r2,r3,r4,r5,r6⟩:=Q71 ⟨hT.size,fun i v hv=>h2.relV (hT.val i v hv),hT.defers⟩ h1 (hG.evo h2) hna' hcal hx hty ht hi hsz hby he hbp hz hzc hk hs' ho;have hap:=Qf4 (Qg3 hq) (.cells (cs.take (off+len * esz))) H na;exact ⟨cv,w',θ',r1,by rw [hap];exact r2,by rw [hap];exact r3,by rw [hap];exact h2.trans r4,r5,r6⟩
   cases hs
  cases hs
 have hs':Ql Gl tm H na (.append esz bytes s' x')=some (v,e):=by
  simp only [Ql];unfold Qgg at hs;split at hs
  ·rename_i es b off len hv;exact absurd ⟨es,b,off,len,hv⟩ hsl
  exact hs
 exact Q71 hT hH hG hna hcal hx hty ht hi hsz hby he hbp hz hzc hk hs' ho
end
end
end Go.Av
