/- Part of FromsnBack: the law returns true; no condition. -/
import Derived.Test.YthbmcbacbhfnmaaGreatDoorAvChk
import Derived.Test.YthbmcbacbhfnmaaGreatDoorAvStepEq
import Derived.Deep.Upon
import Derived.IntWalk
set_option linter.all false
namespace Go.Av
noncomputable section
set_option maxHeartbeats 4000000

def GlobOK (Gl:Nat->Option (List PV)) (θ:Th) (H:List AObj) (w:World):Prop:=
 ∀ g cs,Gl g=some cs->g<w.heap.size∧Qu θ H g∧∃ vs:List Value,(vs.length=cs.length∧∃ t fz,w.heap[g]? = some (.cells vs.toArray t fz))∧(∀ c∈vs,c.oneCell'=true) ∧
  ∀ (j:Nat) x,cs[j]? = some x->w.cell? ⟨g,j,none⟩=some (vs.getD j Qr)∧RelP (Qu θ H) w x (vs.getD j Qr)

def Q34 (θ:Th) (H:List AObj) (w:World) (na:Nat) (v:AV) (e:Eff) (r:Result Next):Prop:=
 ∃ cv w' θ',(r = .ok (.value cv) w'∨(r = .ok .skip w'∧cv=undef))∧RelV θ' (Qu θ' (e.apply H na)) w' v cv∧Hp θ' (e.apply H na) w' ∧
  Evo θ H w θ' (e.apply H na) w'∧(∀ b,b≠na->θ' b = θ b)∧(e.new=none->θ' = θ)

section
variable {P:Program} {Gl:Nat->Option (List PV)} {θ:Th} {H:List AObj} {w:World} {a:Act} {tm:List AV} {S:Nat->Prop} {na:Nat}

def GlobOK.evo {θ':Th} {H':List AObj} {w':World} (h:GlobOK Gl θ H w) (e:Evo θ H w θ' H' w'):GlobOK Gl θ' H' w':=by
 intro g cs hg;obtain ⟨h1,h2,vs,h3,h4,h5⟩:=h g cs hg;obtain ⟨f1,f2⟩:=e.free g h1 h2;exact ⟨Lu h1 e.size,f1,vs,⟨h3.1,h3.2.imp fun t h=>h.imp fun fz h=>f2.trans h⟩,h4,fun j x hx=>⟨by grind [Qes],e.relP (h5 j x hx).2⟩⟩

theorem Qk {r:Result Next} {v:AV} {cv:Value} (hH:Hp θ H w) (hr:r = .ok (.value cv) w) (hv:RelV θ (Qu θ H) w v cv):Q34 θ H w na v {} r:=
 ⟨cv,w,θ,.inl hr,hv,hH,.refl _ _ _,fun _ _=>rfl,fun _=>rfl⟩

def Qgv {r:Result Next} {v:AV} {cv:Value} {n:Nat} (hH:Hp θ H w) (hna:AlOk θ H na) (ob:Obj) (o:AObj) (l:Loc) (hb:l.blk=w.heap.size)
  (hr:r = .ok (.value cv) { w with heap:=w.heap.push ob,drawn:=n })
  (hv:∀ θ' S w',θ' na=some l->RelV θ' S w' v cv)
  (ho:∀ (θ':Th) (S':Nat->Prop),(∀ a l,θ a=some l->θ' a=some l)->(∀ c,c<w.heap.size->Qu θ H c->S' c∧({ w with heap:=w.heap.push ob,drawn:=n }:World).heap[c]? = w.heap[c]?) ->
   RelObj θ' S' { w with heap:=w.heap.push ob,drawn:=n } o l) (hoc:∀ c,o.occ l c->l.blk=c:=by intro c h;exact h):Q34 θ H w na v { new:=some o } r:=by
 have hH':=hH.drew n;have e1:=Evo.drew θ H w n;obtain ⟨hp,ev⟩:=Z0c (w := { w with drawn:=n }) hH' hna ob o l hb hoc;refine ⟨cv,_,upθ θ na l,.inl hr,hv _ _ _ (by simp [upθ]),hp (ho _ _ ev.ext (fun c hc hf=>ev.free c hc hf)),?_,fun b hb=>by simp [upθ,hb],fun h=>by cases h⟩;exact e1.trans ev

def Q5q (hH:Hp θ H w) (hG:GlobOK Gl θ H w) {v:AV} {cv:Value} (hv:RelV θ (Qu θ H) w v cv) {cs:List AV} (hs:Q2q Gl H v=some cs) :
  ∃ addr vs,cv = .pointer (some addr)∧addr.spot=none∧RelVs θ (Qu θ H) w cs vs∧∀ (j:Nat) u,vs[j]? = some u->w.cell? (addr.add j)=some u:=by
 cases v with
 | ptr x off=>
  cases hv with
  | ptr _ _ l hl=>
   simp only [Q2q] at hs
   cases ho:H[x]? with
   | none=>simp_all
   | some o=>
    cases o<;>simp [ho] at hs;rename_i ds;obtain ⟨C,t,fz,h1,h2,h3,h4,h5⟩:=hH.obj x _ l ho hl;subst hs
    have base:RelVs θ (Qu θ H) w ds ((C.toList.drop l.off).take ds.length):=by
     refine ⟨by grind,fun c hc=>?_,fun j x hx=>?_⟩
     ·obtain ⟨j,hj⟩:=Mu.1 hc;rw [Nd] at hj;split at hj
      ·rename_i hlt;rw [Mx] at hj;have:=(h5 j ds[j] (by simp)).2
       simp_all
      simp_all
     grind [Array.getD_eq_getD_getElem?]
    refine ⟨_,_,rfl,rfl,base.drop off,fun j u hj=>?_⟩<;>grind [Addr.add_lit,World.cell?]
 | gptr g off=>
  cases hv;simp only [Q2q] at hs
  cases hg:Gl g with
  | none=>simp_all
  | some ps=>
   simp [hg] at hs;subst hs;obtain ⟨h1,h2,vs,h3,h4,h5⟩:=hG g ps hg;have base:RelVs θ (Qu θ H) w (ps.map .p) vs := .ofP h3.1 h4 (fun i x hx=>(h5 i x hx).2);have hb:=base.drop off;refine ⟨_,_,rfl,rfl,hb,fun j u hj=>?_⟩;rw [Mx] at hj;have hlt:=(Ld.1 hj).1
   simp_all [Addr.add_lit]
 | rptr ps=>
  cases hv with
  | rptr _ blk off val hS hc h1 hvv=>
   simp only [Q2q,Lb] at hs;subst hs
   have base:RelVs θ (Qu θ H) w (ps.map .p) ((List.range ps.length).map val):=by
    refine .ofP (by simp) (fun c hc=>?_) (fun i x hx=>?_)
    ·grind
    grind
   refine ⟨_,_,rfl,rfl,base,fun j u hj=>?_⟩;rw [Ll] at hj
   by_cases hlt:j<ps.length
   ·simp_all [Addr.add_lit]
   simp_all
 | _=>simp_all [Q2q]

theorem Qde {t:TypeId} {n:Nat} (h:Qc2 P t n=true):∃ i,P.info? t=some i∧i.size=n:=by
 unfold Qc2 at h;cases hi:P.info? t<;>simp_all
def Q1g {t:TypeId} {n:Nat} (h:Qc2 P t n=true) (w:World):(sizeOf t).run P w = .ok n w:=by
 obtain ⟨i,hi,hn⟩:=Qde h<;>simp_all [sizeOf,typeInfo]
def Qe3 {t:TypeId} {b:Bool} (h:Qhu P t b=true) (w:World):(isAgg t).run P w = .ok b w:=by
 unfold Qhu at h
 cases hu:P.underlying t with
 | none=>simp_all
 | some d=>
  have:=run_underlying (P:=P) hu w;cases d<;>simp [hu] at h<;>subst h<;>simp [isAgg,this]

def Qd2 {t:TypeId} {n:Nat} {b:Bool} (hn:Qc2 P t n=true) (hb:Qhu P t b=true) {addr:Addr} {vs:List Value} (hl:vs.length=n)
  (hc:∀ (j:Nat) u,vs[j]? = some u->w.cell? (addr.add j)=some u) {cv:Value} (hv:(b=true∧cv = .agg vs.toArray)∨(b=false∧vs.head? = some cv)) :
  (loadVar t addr).run P w = .ok cv w:=by
 rcases hv with ⟨rfl,rfl⟩ | ⟨rfl,hh⟩
 ·have:=run_loadCells_list (P:=P) w addr vs hc;rw [hl] at this;simp [loadVar,Qe3 hb,Q1g hn,this,Result.andThen]
 ·have h0:vs[0]? = some cv:=by rw [← hh];cases vs<;>rfl
  have:=hc 0 cv h0
  have e:addr.add 0=addr:=by rfl
  rw [e] at this;simp [loadVar,Qe3 hb,this]

def Q5s {β:Type} {n:Nat} {l c:List β} (h:Q71 n l=some c):c=l.take n∧c.length=n:=by
 grind [Q71]

def Qld {b:Bool} {cs:List AV} {vs:List Value} (h:RelVs θ S w cs vs) {v:AV} (hv:sOf b cs=some v) :
  ∃ cv,((b=true∧cv = .agg vs.toArray)∨(b=false∧vs.head? = some cv))∧RelV θ S w v cv:=by
 cases b with
 | true=>cases hv<;>simp_all [Qcz]
 | false=>
  cases cs with
  | nil=>cases hv
  | cons x xs=>
   cases hv
   cases vs with
   | nil=>have:=h.1;simp_all
   | cons u us=>exact ⟨u,.inr ⟨rfl,rfl⟩,by simpa using h.2.2 0 v rfl⟩

theorem Z2d (hT:TmOk θ (Qu θ H) w tm a) (hH:Hp θ H w) (hG:GlobOK Gl θ H w) {t:TypeId} {x:Operand} {n:Nat} {b:Bool} {y:Opd} (hn:Qc2 P t n=true) (hb:Qhu P t b=true)
  (hx:Ql x y=true) {v:AV} {e:Eff} (hs:step Gl tm H na (.load n b y)=some (v,e)) {o:Oper} (ho:o.op = .load t x):Q34 θ H w na v e ((execOp a.eval o).run P w):=by
 simp only [step] at hs
 cases h1:Q2q Gl H (Q9 tm y) with
 | none=>simp_all
 | some cs=>
  cases h2:Q71 n cs with
  | none=>simp_all
  | some ds=>
   cases h3:sOf b ds with
   | none=>simp_all
   | some v'=>
    simp [h1,h2,h3,Qv] at hs;obtain ⟨rfl,rfl⟩:=hs;obtain ⟨addr,vs,hcv,hsp,hrel,hcell⟩:=Q5q hH hG (Ze hT hx) h1;obtain ⟨rfl,hlen⟩:=Q5s h2;have hrel':=hrel.take n;obtain ⟨cv,hcv',hrv⟩:=Qld hrel' h3
    have hload:=Qd2 (w:=w) hn hb (addr:=addr) (vs:=vs.take n) ji (fun j u hj=>hcell j u (by
     grind)) hcv'
    simp_all [Qk,execOp,Instr.loadAt,Instr.sureAddr]
end
end
end Go.Av
namespace Go.Av
noncomputable section
set_option maxHeartbeats 4000000
section
variable {P:Program} {Gl:Nat->Option (List PV)} {θ:Th} {H:List AObj} {w:World} {a:Act} {tm:List AV} {S:Nat->Prop} {na:Nat}

def Qog (w:World) (b o:Nat) (v:Value) (C:Array Value) (t:TypeId) (fz:Nat×Nat) (h:w.heap[b]? = some (.cells C t fz)) :
  (w.setCell ⟨b,o,none⟩ v).heap[b]? = some (.cells (C.setIfInBounds o v) t fz):=by
 grind [World.setCell]
def Qm2 (w:World) (b o c:Nat) (v:Value) (h:c≠b):(w.setCell ⟨b,o,none⟩ v).heap[c]? = w.heap[c]? := by
 simp_all [World.setCell,Array.getElem?_modify,Ne.symm]
def Q8i (b c:Nat) (h:c≠b):∀ (vs:List Value) (o:Nat) (w:World),(w.setCells b o vs).heap[c]? = w.heap[c]?
 | [],_,_=>rfl
 | v::r,o,w=>by
  simp only [World.setCells];rw [Q8i b c h r,Qm2 _ _ _ _ _ h]
def Q9w (b:Nat):∀ (vs:List Value) (o:Nat) (w:World),(w.setCells b o vs).heap.size=w.heap.size∧(w.setCells b o vs).os=w.os∧(w.setCells b o vs).tape=w.tape∧(w.setCells b o vs).output=w.output
 | [],_,_=>⟨rfl,rfl,rfl,rfl⟩
 | v::r,o,w=>by
  simp only [World.setCells];obtain ⟨h1,h2,h3,h4⟩:=Q9w b r (o+1) (w.setCell ⟨b,o,none⟩ v)
  simp_all [World.setCell]
def Qa6 (b:Nat) (t:TypeId) (fz:Nat×Nat):∀ (vs:List Value) (o:Nat) (w:World) (C:Array Value),w.heap[b]? = some (.cells C t fz)->o+vs.length≤C.size ->
  ∃ C',(w.setCells b o vs).heap[b]? = some (.cells C' t fz)∧C'.size=C.size∧∀ j,C'.getD j Qr=if o≤j∧j<o+vs.length then vs.getD (j - o) Qr else C.getD j Qr
 | [],o,w,C,h,_=>⟨C,h,rfl,fun j=>by
   grind⟩
 | v::r,o,w,C,h,hl=>by
  simp only [Mj] at hl;obtain ⟨C',h1,h2,h3⟩:=Qa6 b t fz r (o+1) (w.setCell ⟨b,o,none⟩ v) (C.setIfInBounds o v) (Qog w b o v C t fz h) (by grind);refine ⟨C',h1,by simp_all,fun j=>?_⟩;rw [h3];simp only [Mj]
  by_cases hj:j=o
  ·subst hj;rw [Ae (by omega),Af (by omega)];simp [Array.getD_eq_getD_getElem?,Array.getElem?_setIfInBounds]
   grind
  ·by_cases hr:o+1≤j∧j<o+1+r.length
   ·grind
   ·rw [Ae hr,Ae (by omega)]
    simp_all [Ne.symm]

theorem Qfe {w:World} {b:Nat} {C:Array Value} {t:TypeId} {fz:Nat×Nat} (h:w.heap[b]? = some (.cells C t fz)) (hf:∀ j,j<C.size->¬(fz.1≤j∧j<fz.2)) {j:Nat} (hj:j<C.size) :
  w.frozen? ⟨b,j,none⟩=false:=by
 simp_all [World.frozen?]

def Qof (hH:Hp θ H w) {x:Nat} {cs:List AV} {l:Loc} (ho:H[x]? = some (.cells cs)) (hl : θ x=some l) {off:Nat} {new:List AV} {vs:List Value}
  (hv:RelVs θ (Qu θ H) w new vs) (hle:off+new.length≤cs.length) :
  (∀ (Q:Program),(storeCells ⟨l.blk,l.off+off,none⟩ vs 0).run Q w = .ok () (w.setCells l.blk (l.off+off) vs)) ∧
  Hp θ (H.set x (.cells (Q44 cs off new))) (w.setCells l.blk (l.off+off) vs)∧Evo θ H w θ (H.set x (.cells (Q44 cs off new))) (w.setCells l.blk (l.off+off) vs):=by
 obtain ⟨C,t,fz,h1,h2,h3,h4,h5⟩:=hH.obj x _ l ho hl;have hvl:=hv.1;obtain ⟨C',c1,c2,c3⟩:=Qa6 l.blk t fz vs (l.off+off) w C h1 (by omega);obtain ⟨m1,m2,m3,m4⟩:=Q9w l.blk vs (l.off+off) w;have hs:=Qle (o' := .cells (Q44 cs off new)) hH ho rfl hl (w.setCells l.blk (l.off+off) vs) m1 (fun c hc=>Q8i _ _ hc _ _ _) m2 m3 m4;refine ⟨fun Q=>?_,hs.1 ?_,hs.2⟩
 ·have:=run_storeCells_cells (P:=Q) l.blk (l.off+off) vs 0 w (fun j hj=>?_) (fun j hj=>?_) hv.2.1
  ·omega
  ·grind [World.cell?]
  grind [Qfe]
 ·refine ⟨C',t,fz,c1,c2.trans h2,fun j hj=>h3 j (by omega),?_,fun j v hj=>?_⟩
  ·grind [Q44]
  ·rw [c3];unfold Q44 at hj;have hmono:∀ {y:AV} {u:Value},RelV θ (Qu θ H) w y u->RelV θ (Qu θ (H.set x (.cells (Q44 cs off new)))) (w.setCells l.blk (l.off+off) vs) y u:=fun r=>hs.2.relV r
   by_cases hj1:j<off
   ·grind
   ·rw [Lq (by grind)] at hj
    have e1:j - (cs.take off).length=j - off:=by grind
    rw [e1] at hj
    by_cases hj2:j - off<new.length
    ·rw [Lm hj2] at hj;rw [Af (by omega)]
     have e2:l.off+j - (l.off+off)=j - off:=by omega
     rw [e2];refine ⟨hmono (hv.2.2 (j - off) v hj),hv.2.1 _ ?_⟩<;>simp_all
    grind

theorem Qzn (hT:TmOk θ (Qu θ H) w tm a) (hH:Hp θ H w) {t:TypeId} {x y:Operand} {n:Nat} {x' y':Opd} (hn:Qc2 P t n=true)
  (hx:Ql x x'=true) (hy:Ql y y'=true) {v:AV} {e:Eff} (hs:step Gl tm H na (.store n x' y')=some (v,e)) {o:Oper} (ho:o.op = .store t x y):Q34 θ H w na v e ((execOp a.eval o).run P w):=by
 simp only [step] at hs;have hrx:=Ze hT hx;have hry:=Ze hT hy;generalize hvx:Q9 tm x'=vx at hs hrx
 cases vx<;>simp only [] at hs<;>try (cases hs;done)
 rename_i b off
 cases hob:H[b]? with
 | none=>simp_all
 | some ob=>
  cases ob<;>simp [hob] at hs;rename_i cs
  cases hc:(Q9 tm y').cells? with
  | none=>simp_all
  | some new=>
   simp [hc] at hs;obtain ⟨⟨h1,h2⟩,rfl,rfl⟩:=hs;generalize hax:a.eval x=ax at hrx
   cases hrx with
   | ptr _ _ l hl=>
    have hcells:=Qdi hry hc;obtain ⟨w1,w2,w3⟩:=Qof hH hob hl hcells (off:=off) (by omega)
    have hsz:(a.eval y).cells.size=n:=by have:=hcells.1;simp at this;omega
    refine ⟨undef,_,θ,.inr ⟨?_,rfl⟩,?_,w2,w3,fun _ _=>rfl,fun _=>rfl⟩
    ·have:=Q1g hn w
     simp_all [execOp,Instr.storeAt,Instr.sureAddr,storeVar]
    ·exact .p _ _ (.tuple [] #[] rfl (fun i x h=>by simp_all))

def Q9z {t:TypeId} {z:List PV} (h:Qce P t z=true):∃ i v,P.info? t=some i∧i.zero=some v∧Q80 z v.cells.toList=true:=by
 unfold Qce at h
 cases hi:P.info? t with
 | none=>simp_all
 | some i=>
  simp [hi] at h;cases hz:i.zero<;>simp_all
def Qdy {z:List PV} {vs:List Value} (h:Q80 z vs=true):RelVs θ S w (z.map .p) vs:=by
 obtain ⟨h1,h2,h3⟩:=Q84 (S:=S) (w:=w) z vs h;exact .ofP h1 h2 h3
def Qea {t:TypeId} {i:TypeInfo} {v:Value} (hi:P.info? t=some i) (hz:i.zero=some v) (w:World):(zeroValue t).run P w = .ok v w:=by
 simp_all [zeroValue,typeInfo]

def Qwg {n:Nat} {t:TypeId} {cs:List AV} {vs:List Value} (extra:List Value) (hv:RelVs θ (Qu θ H) w cs vs) (θ':Th) (S':Nat->Prop)
  (h1:∀ a l,θ a=some l->θ' a=some l) (h2:∀ c,c<w.heap.size->Qu θ H c->S' c∧({ w with heap:=w.heap.push (.cells (vs++extra).toArray t),drawn:=n }:World).heap[c]? = w.heap[c]?) :
  RelObj θ' S' { w with heap:=w.heap.push (.cells (vs++extra).toArray t),drawn:=n } (.cells cs) ⟨w.heap.size,0,vs.length+extra.length⟩:=by
 refine ⟨(vs++extra).toArray,t,(0,0),by simp,by simp,fun j _=>by simp,by simp [hv.1],fun j v hj=>?_⟩;have hlt:=(Ld.1 hj).1;have hv':=hv.mono h1 h2
 have e:(vs++extra).toArray.getD (0+j) Qr=vs.getD j Qr:=by
  rw [Mb,Lr];simp only [Mi,List.getElem?_toArray];rw [Lm (by rw [hv.1];omega)]
 rw [e];refine ⟨hv'.2.2 j v hj,hv.2.1 _ ?_⟩;rw [Lr,La (by rw [hv.1];omega)];simp

def Qdo {r:Result Next} {v:AV} {cv:Value} {n:Nat} (hH:Hp θ H w) (hna:AlOk θ H na) {t:TypeId} {cs:List AV} {vs:List Value} (extra:List Value) (hv:RelVs θ (Qu θ H) w cs vs)
  (hr:r = .ok (.value cv) { w with heap:=w.heap.push (.cells (vs++extra).toArray t),drawn:=n })
  (hcv:∀ θ' S w',θ' na=some ⟨w.heap.size,0,vs.length+extra.length⟩->RelV θ' S w' v cv):Q34 θ H w na v { new:=some (.cells cs) } r:=
 Qgv hH hna _ _ _ rfl hr hcv (fun θ' S' h1 h2=>Qwg extra hv θ' S' h1 h2)

theorem Qvw (hH:Hp θ H w) (hna:AlOk θ H na) {t:TypeId} {z:List PV} (hz:Qce P t z=true)
  {v:AV} {e:Eff} (hs:step Gl tm H na (.alloc z)=some (v,e)) {o:Oper} (ho:o.op = .alloc t):Q34 θ H w na v e ((execOp a.eval o).run P w):=by
 simp only [step,Lb,Lg] at hs;obtain ⟨rfl,rfl⟩:=hs;obtain ⟨i,zv,hi,hz1,hz2⟩:=Q9z hz;refine Qdo (n:=w.drawn) (t:=t) (cv := .pointer (some ⟨w.heap.size,0,none⟩)) hH hna [] (Qdy hz2) ?_ (fun θ' S w' h => .ptr na 0 _ h)
 simp_all [Qea,execOp,Instr.alloc,newVar,newRow]

theorem Z6w (hT:TmOk θ (Qu θ H) w tm a) (hH:Hp θ H w) (hna:AlOk θ H na) {t:TypeId} {x:Operand} {y:Opd} (hx:Ql x y=true)
  {v:AV} {e:Eff} (hs:step Gl tm H na (.box y)=some (v,e)) {o:Oper} (ho:o.op = .box t x):Q34 θ H w na v e ((execOp a.eval o).run P w):=by
 simp only [step] at hs
 cases hc:(Q9 tm y).cells? with
 | none=>simp_all
 | some cs=>
  simp [hc] at hs;obtain ⟨rfl,rfl⟩:=hs;refine Qdo (n:=w.drawn) (t:=t) (cv := .pointer (some ⟨w.heap.size,0,none⟩)) hH hna [] (Qdi (Ze hT hx) hc) ?_ (fun θ' S w' h => .ptr na 0 _ h)
  simp_all [execOp,Instr.box,newVar,newRow]
end
end
end Go.Av
namespace Go.Av
noncomputable section
set_option maxHeartbeats 4000000
section
variable {P:Program} {Gl:Nat->Option (List PV)} {θ:Th} {H:List AObj} {w:World} {a:Act} {tm:List AV} {S:Nat->Prop} {na:Nat}

theorem Q3c {k:IntKind} {n:Int} {v:Value} (h:RelV θ S w (.p (.int k n)) v):v = .int k n:=dm
def Q8h {b:Bool} {v:Value} (h:RelV θ S w (.p (.bool b)) v):v = .bool b:=dm
def Qb8 {s:List UInt8} {v:Value} (h:RelV θ S w (.p (.str s)) v):v = .string ⟨⟨s⟩⟩:=dm
def Qhk {v:Value} (h:RelV θ S w (.p .nilPtr) v):v = .pointer none:=dm
theorem Q06 {v:Value} (h:RelV θ S w (.p .nilSlice) v):v = .slice none 0 0:=dm
theorem Q8s {v:Value} (h:RelV θ S w (.p .slice0) v):∃ a,v = .slice a 0 0:=by cases h with | p _ _ h=>exact dl
def Qwz {v:Value} (h:RelV θ S w (.p .sliceS) v):∃ a c,v = .slice (some a) 0 c:=by cases h with | p _ _ h=>exact dl
theorem Q23 (k:IntKind) (n:Int):RelV θ S w (.p (.int k n)) (.int k n) := .p _ _ (.int _ _)
theorem Q0d (b:Bool):RelV θ S w (.p (.bool b)) (.bool b) := .p _ _ (.bool _)
def Qvq (s:List UInt8):RelV θ S w (.p (.str s)) (.string ⟨⟨s⟩⟩) := .p _ _ (.str _)
theorem Q4n:RelV θ S w Uw undef := .p _ _ (.tuple [] #[] rfl (fun i x h=>by simp_all))

theorem Qro (hT:TmOk θ (Qu θ H) w tm a) (hH:Hp θ H w) {x:Operand} {y:Opd} (hx:Ql x y=true) {v:AV} {e:Eff} (hs:step Gl tm H na (.move y)=some (v,e))
  {o:Oper} (ho:o.op = .move x∨o.op = .assign x):Q34 θ H w na v e ((execOp a.eval o).run P w):=by
 simp only [step,Qv,Lb,Lg] at hs;obtain ⟨rfl,rfl⟩:=hs;refine Qk hH ?_ (Ze hT hx)
 rcases ho with ho | ho<;>simp [execOp,ho]

theorem Z1k (hT:TmOk θ (Qu θ H) w tm a) (hH:Hp θ H w) {c x y:Operand} {c' x' y':Opd} (hc:Ql c c'=true) (hx:Ql x x'=true) (hy:Ql y y'=true) {v:AV} {e:Eff}
  (hs:step Gl tm H na (.pick c' x' y')=some (v,e)) {o:Oper} (ho:o.op = .pick c x y):Q34 θ H w na v e ((execOp a.eval o).run P w):=by
 simp only [step] at hs;have hrc:=Ze hT hc;split at hs
 ·rename_i b hb;rw [hb] at hrc;have:=Q8h hrc;simp only [Qv,Lb,Lg] at hs;obtain ⟨rfl,rfl⟩:=hs;cases b<;>simp_all [Qk,Ze,execOp,asBool]
 simp_all

theorem Qos (hT:TmOk θ (Qu θ H) w tm a) (hH:Hp θ H w) {x:Operand} {y:Opd} (hx:Ql x y=true) {v:AV} {e:Eff} (hs:step Gl tm H na (.nilCheck y)=some (v,e))
  {o:Oper} (ho:o.op = .nilCheck x):Q34 θ H w na v e ((execOp a.eval o).run P w):=by
 simp only [step] at hs;have hrx:=Ze hT hx
 have key:v=Q9 tm y∧e = {}∧((∃ p,a.eval x = .pointer (some p))∨(∃ f A B,a.eval x = .func (.func f) A B)∨∃ t v,a.eval x = .iface t v):=by
  generalize hvx:Q9 tm y=vx at hs hrx
  split at hs<;>try (cases hs;done)
  all_goals
   simp only [Qv,Lb,Lg] at hs;obtain ⟨rfl,rfl⟩:=hs;refine ⟨rfl,rfl,?_⟩
  ·exact cH
  ·exact cH
  ·exact cH
  ·exact cH
  ·exact il
  ·exact cH
  exact il
 obtain ⟨rfl,rfl,h⟩:=key;refine Qk hH ?_ hrx
 rcases h with ⟨p,h⟩ | ⟨f,A,B,h⟩ | ⟨t,v,h⟩<;>simp_all [execOp]

def Qwp {op:BinOp} {op':Ari} (h:Qnt op op'=true) {i j:IntKind} {x y z:Int} (t:TypeId) (hz:Z6h op' i x y=some z) (hij:Qk8 op' i j=true) (w:World) :
  (binOp op t (.int i x) (.int j y)).run P w = .ok (.int i z) w:=by
 cases op<;>cases op'<;>simp [Qnt] at h<;>simp only [Z6h] at hz
 case quo | rem=>
  simp_all [Qk8,binOp,Op.intDiv]
 case shl | shr=>
  split at hz
  ·rename_i hy;cases hz
   have:¬ y<0:=by omega
   simp [binOp,Op.shift,this]
  simp_all
 all_goals
  cases hz;simp [Qk8] at hij;subst hij;simp [binOp,Op.intArith,Op.intBits]

def Quw {i j:IntKind} (h:(i == j)=true):i=j:=by simp_all

theorem Z70 (hT:TmOk θ (Qu θ H) w tm a) (hH:Hp θ H w) {op:BinOp} {op':Ari} {t yt:TypeId} {x y:Operand} {x' y':Opd} (hop:Qnt op op'=true) (hx:Ql x x'=true) (hy:Ql y y'=true) {v:AV} {e:Eff}
  (hs:step Gl tm H na (.ari op' x' y')=some (v,e)) {o:Oper} (ho:o.op = .binOp op t x y yt):Q34 θ H w na v e ((execOp a.eval o).run P w):=by
 simp only [step] at hs;have hrx:=Ze hT hx;have hry:=Ze hT hy;generalize Q9 tm x'=vx at hs hrx;generalize Q9 tm y'=vy at hs hry;split at hs
 ·rename_i i x0 j y0;have e1:=Q3c hrx;have e2:=Q3c hry;split at hs
  ·rename_i hk
   cases hz:Z6h op' i x0 y0 with
   | none=>simp_all
   | some z=>
    simp only [hz,Lf,Qv,Lb,Lg] at hs;obtain ⟨rfl,rfl⟩:=hs;refine Qk hH ?_ (Q23 i z);have:=Qwp hop t hz hk w (P:=P)
    simp_all [eqGuard,execOp]
  simp_all
 ·rename_i s0 t0;have e1:=Qb8 hrx;have e2:=Qb8 hry
  cases op'<;>simp only [] at hs<;>try (cases hs;done)
  split at hs
  ·rename_i hlen;simp only [Qv,Lb,Lg] at hs;obtain ⟨rfl,rfl⟩:=hs;cases op<;>simp [Qnt] at hop;refine Qk hH ?_ (Qvq (s0++t0))
   have h1:=run_string_add_sum (P:=P) w ⟨⟨s0⟩⟩ ⟨⟨t0⟩⟩ (by
    have:(⟨⟨s0⟩⟩:ByteArray).size+(⟨⟨t0⟩⟩:ByteArray).size=s0.length+t0.length:=rfl
    omega)
   have h2:(⟨⟨s0⟩⟩:ByteArray)++(⟨⟨t0⟩⟩:ByteArray)=⟨⟨s0++t0⟩⟩:=by rfl
   simp_all [execOp,eqGuard,binOp]
  simp_all
 simp_all
end
end
end Go.Av
namespace Go.Av
noncomputable section
set_option maxHeartbeats 4000000
section
variable {P:Program} {Gl:Nat->Option (List PV)} {θ:Th} {H:List AObj} {w:World} {a:Act} {tm:List AV} {S:Nat->Prop} {na:Nat}

def Z60 {op:BinOp} {op':Cmp} (h:Qfh op op'=true) (i:IntKind) (x y:Int) (t:TypeId) (w:World) :
  (binOp op t (.int i x) (.int i y)).run P w = .ok (.bool (Q0 op' x y)) w:=by
 cases op<;>cases op'<;>simp [Qfh] at h<;>simp [binOp,Op.intCmp,Q0]
def Z75 {op:BinOp} {op':Cmp} (h:Qfh op op'=true) (x y:List UInt8) (t:TypeId) (w:World) :
  (binOp op t (.string ⟨⟨x⟩⟩) (.string ⟨⟨y⟩⟩)).run P w = .ok (.bool (Q10 op' x y)) w:=by
 cases op<;>cases op'<;>simp [Qfh] at h<;>simp [binOp,Op.stringOp,Q10]
def Qwv {op:BinOp} {op':Cmp} (h:Qfh op op'=true) (i j:IntKind) (m n:Int) (t:TypeId) (x y:Operand) (w:World) :
  (eqGuard op t x y (.int i m) (.int j n)).run P w = .ok () w:=by
 cases op<;>cases op'<;>rfl<;>rfl
def Qyy {op:BinOp} {op':Cmp} (h:Qfh op op'=true) (m n:ByteArray) (t:TypeId) (x y:Operand) (w:World) :
  (eqGuard op t x y (.string m) (.string n)).run P w = .ok () w:=by
 cases op<;>cases op'<;>rfl<;>rfl

theorem Z6b (hT:TmOk θ (Qu θ H) w tm a) (hH:Hp θ H w) {op:BinOp} {op':Cmp} {t yt:TypeId} {x y:Operand} {x' y':Opd} (hop:Qfh op op'=true) (hx:Ql x x'=true) (hy:Ql y y'=true) {v:AV} {e:Eff}
  (hs:step Gl tm H na (.cmp op' x' y')=some (v,e)) {o:Oper} (ho:o.op = .binOp op t x y yt):Q34 θ H w na v e ((execOp a.eval o).run P w):=by
 simp only [step] at hs;have hrx:=Ze hT hx;have hry:=Ze hT hy;generalize Q9 tm x'=vx at hs hrx;generalize Q9 tm y'=vy at hs hry
 cases hb:Zar op' vx vy with
 | none=>simp_all
 | some b=>
  simp only [hb,Lf,Qv,Lb,Lg] at hs;obtain ⟨rfl,rfl⟩:=hs;refine Qk hH ?_ (Q0d b);unfold Zar at hb;split at hb
  ·rename_i i x0 j y0;split at hb
   ·rename_i hk;cases hb;have:=Quw hk;subst this;simp [execOp,ho,Q3c hrx,Q3c hry,Qwv hop,Z60 hop,Result.andThen]
   simp_all
  ·cases hb;simp [execOp,ho,Qb8 hrx,Qb8 hry,Qyy hop,Z75 hop,Result.andThen]
  simp_all

def Qg9 (d:Nat) {t:TypeId} (ht:P.underlying t=some .bool) (p q:Bool) (w:World):(Op.equalIn (d+1) t (.bool p) (.bool q)).run P w = .ok (p == q) w:=df
def Qji {t:TypeId} (ht:P.underlying t=some .bool) (p q:Bool) (w:World):(Op.equal t (.bool p) (.bool q)).run P w = .ok (p == q) w:=
 Qg9 9999 ht p q w
def Qia (d:Nat) {t u:TypeId} (ht:P.underlying t=some (.pointer u)) (p:Option Addr) (w:World):(Op.equalIn (d+1) t (.pointer p) (.pointer none)).run P w = .ok p.isNone w:=by
 cases p<;>simp_all [Op.equalIn,run_underlying]
def Qe4 {t u:TypeId} (ht:P.underlying t=some (.pointer u)) (p:Option Addr) (w:World):(Op.equal t (.pointer p) (.pointer none)).run P w = .ok p.isNone w:=
 Qia 9999 ht p w
def Qjs (t:TypeId) (p q:Bool):binOp .eql t (.bool p) (.bool q)=(do pure (.bool (← Op.equal t (.bool p) (.bool q)))):=by rfl
def Qjt (t:TypeId) (p q:Bool):binOp .neq t (.bool p) (.bool q)=(do pure (.bool (!(← Op.equal t (.bool p) (.bool q))))):=by rfl
def Qdg (t:TypeId) (p q:Option Addr):binOp .eql t (.pointer p) (.pointer q)=(do pure (.bool (← Op.equal t (.pointer p) (.pointer q)))):=by rfl
def Qdd (t:TypeId) (p q:Option Addr):binOp .neq t (.pointer p) (.pointer q)=(do pure (.bool (!(← Op.equal t (.pointer p) (.pointer q))))):=by rfl

theorem Z7i (hT:TmOk θ (Qu θ H) w tm a) (hH:Hp θ H w) {op:BinOp} {neg:Bool} {t yt:TypeId} {x y:Operand} {x' y':Opd}
  (hop:(op = .eql∧neg=false)∨(op = .neq∧neg=true)) (hx:Ql x x'=true) (hy:Ql y y'=true) (ht:P.underlying t=some .bool) {v:AV} {e:Eff}
  (hs:step Gl tm H na (.eqB neg x' y')=some (v,e)) {o:Oper} (ho:o.op = .binOp op t x y yt):Q34 θ H w na v e ((execOp a.eval o).run P w):=by
 simp only [step] at hs;have hrx:=Ze hT hx;have hry:=Ze hT hy;generalize Q9 tm x'=vx at hs hrx;generalize Q9 tm y'=vy at hs hry;split at hs
 ·rename_i p q;simp only [Qv,Lb,Lg] at hs;obtain ⟨rfl,rfl⟩:=hs;refine Qk hH ?_ (Q0d _);have h1:=Q8h hrx;have h2:=Q8h hry
  rcases hop with ⟨rfl,rfl⟩ | ⟨rfl,rfl⟩ <;>
   simp [execOp,ho,h1,h2,eqGuard,Qjs,Qjt,Qji ht,Result.andThen]
 simp_all

theorem Z76 (hT:TmOk θ (Qu θ H) w tm a) (hH:Hp θ H w) {op:BinOp} {neg:Bool} {t yt:TypeId} {x y:Operand} {x' y':Opd}
  (hop:(op = .eql∧neg=false)∨(op = .neq∧neg=true)) (hx:Ql x x'=true) (hy:Ql y y'=true) {d:TypeId} (ht:P.underlying t=some (.pointer d)) {v:AV} {e:Eff}
  (hs:step Gl tm H na (.eqP neg x' y')=some (v,e)) {o:Oper} (ho:o.op = .binOp op t x y yt):Q34 θ H w na v e ((execOp a.eval o).run P w):=by
 simp only [step] at hs;have hrx:=Ze hT hx;have hry:=Ze hT hy;generalize Q9 tm x'=vx at hs hrx;generalize Q9 tm y'=vy at hs hry;split at hs
 ·simp only [Qv,Lb,Lg] at hs;obtain ⟨rfl,rfl⟩:=hs;refine Qk hH ?_ (Q0d _);have h2:=Qhk hry;generalize hax:a.eval x=ax at hrx;cases hrx
  rcases hop with ⟨rfl,rfl⟩ | ⟨rfl,rfl⟩ <;>
   simp [execOp,ho,hax,h2,eqGuard,Qdg,Qdd,Qe4 ht,Result.andThen]
 ·simp only [Qv,Lb,Lg] at hs;obtain ⟨rfl,rfl⟩:=hs;refine Qk hH ?_ (Q0d _);have h1:=Qhk hrx;have h2:=Qhk hry
  rcases hop with ⟨rfl,rfl⟩ | ⟨rfl,rfl⟩ <;>
   simp [execOp,ho,h1,h2,eqGuard,Qdg,Qdd,Qe4 ht,Result.andThen]
 simp_all

theorem Z6k (hT:TmOk θ (Qu θ H) w tm a) (hH:Hp θ H w) {t:TypeId} {x:Operand} {x':Opd} (hx:Ql x x'=true) {v:AV} {e:Eff}
  (hs:step Gl tm H na (.not x')=some (v,e)) {o:Oper} (ho:o.op = .unOp .not t x):Q34 θ H w na v e ((execOp a.eval o).run P w):=by
 simp only [step] at hs;have hrx:=Ze hT hx;generalize Q9 tm x'=vx at hs hrx;split at hs
 ·simp only [Qv,Lb,Lg] at hs;obtain ⟨rfl,rfl⟩:=hs;exact Qk hH (by simp [execOp,ho,Q8h hrx,Op.unary]) (Q0d _)
 simp_all
theorem Z72 (hT:TmOk θ (Qu θ H) w tm a) (hH:Hp θ H w) {t:TypeId} {x:Operand} {x':Opd} (hx:Ql x x'=true) {v:AV} {e:Eff}
  (hs:step Gl tm H na (.neg x')=some (v,e)) {o:Oper} (ho:o.op = .unOp .neg t x):Q34 θ H w na v e ((execOp a.eval o).run P w):=by
 simp only [step] at hs;have hrx:=Ze hT hx;generalize Q9 tm x'=vx at hs hrx;split at hs
 ·simp only [Qv,Lb,Lg] at hs;obtain ⟨rfl,rfl⟩:=hs;exact Qk hH (by simp [execOp,ho,Q3c hrx,Op.unary,Op.intArith]) (Q23 _ _)
 simp_all
theorem Z0k (hT:TmOk θ (Qu θ H) w tm a) (hH:Hp θ H w) {s d:TypeId} {i j:IntKind} (hsrc:P.underlying s=some (.int j)) (hd:P.underlying d=some (.int i)) {x:Operand} {x':Opd} (hx:Ql x x'=true) {v:AV} {e:Eff}
  (hs:step Gl tm H na (.conv i x')=some (v,e)) {o:Oper} (ho:o.op = .convert s d x):Q34 θ H w na v e ((execOp a.eval o).run P w):=by
 simp only [step] at hs;have hrx:=Ze hT hx;generalize Q9 tm x'=vx at hs hrx;split at hs
 ·simp only [Qv,Lb,Lg] at hs;obtain ⟨rfl,rfl⟩:=hs;exact Qk hH (by simp [execOp,ho,Q3c hrx,convert,run_underlying hsrc,run_underlying hd,Conv.intToInt,Result.andThen]) (Q23 _ _)
 simp_all

def Qbh (hT:TmOk θ (Qu θ H) w tm a):∀ (xs:List Operand) (ys:List Opd),Xc xs ys=true->xs.length=ys.length∧∀ (i:Nat) v,(ys.map (Q9 tm))[i]? = some v->RelV θ (Qu θ H) w v ((xs.map a.eval).getD i Qr)
 | [],[],_=>⟨rfl,fun i v h=>by grind⟩
 | x::xs,y::ys,h=>by
  simp only [Xc,Le] at h;obtain ⟨h1,h2⟩:=Qbh hT xs ys h.2<;>grind [Ze]
 | [],_::_,h=>by simp [Xc] at h
 | _::_,[],h=>by simp [Xc] at h

def Q5k (A:Array Value) (i:Nat) (d:Value):A.getD i d=A.toList.getD i d:=by
 simp

theorem Qg0 (hT:TmOk θ (Qu θ H) w tm a) (hH:Hp θ H w) {f:Fn} {A B:Array Operand} {A' B':List Opd} (hA:Xc A.toList A'=true) (hB:Xc B.toList B'=true) {v:AV} {e:Eff}
  (hs:step Gl tm H na (.makeFunc f A' B')=some (v,e)) {o:Oper} (ho:o.op = .makeFunc f A B):Q34 θ H w na v e ((execOp a.eval o).run P w):=by
 simp only [step,Qv,Lb,Lg] at hs;obtain ⟨rfl,rfl⟩:=hs;obtain ⟨a1,a2⟩:=Qbh hT _ _ hA;obtain ⟨b1,b2⟩:=Qbh hT _ _ hB;refine Qk (cv := .func f (A.map a.eval) (B.map a.eval)) hH (by simp_all [execOp,Instr.makeFunc]) (.func _ _ _ _ _ (by simp_all) (by simp_all) (fun i x hx=>?_) (fun i x hx=>?_))
 ·have:=a2 i x hx
  simp_all
 ·have:=b2 i x hx
  simp_all

def Q62 (hT:TmOk θ (Qu θ H) w tm a) {x:Option Operand} {y:Option Opd} (h:Q3b x y=true) {d n:Nat} (hn:Qbp d (y.map (Q9 tm))=some n) :
  (x=none∧n=d)∨∃ z k m,x=some z∧a.eval z = .int k m∧0≤m∧n=m.toNat:=by
 cases x with
 | none=>
  grind [Qbp,Q3b]
 | some x=>
  cases y with
  | none=>simp [Q3b] at h
  | some y=>
   simp only [Q3b] at h;have hr:=Ze hT h;simp only [Mq] at hn;unfold Qbp at hn;split at hn
   ·simp_all
   ·rename_i k m heq;split at hn
    ·rename_i h0;cases hn;simp only [Lb] at heq;rw [heq] at hr;exact .inr ⟨x,k,m,rfl,Q3c hr,h0,rfl⟩
    simp_all
   simp_all

theorem Qpf (hT:TmOk θ (Qu θ H) w tm a) (hH:Hp θ H w) {t:TypeId} {x:Operand} {lo hi:Option Operand} {x':Opd} {lo' hi':Option Opd} (hx:Ql x x'=true) (hlo:Q3b lo lo'=true) (hhi:Q3b hi hi'=true)
  (ht:P.underlying t=some .string) {v:AV} {e:Eff} (hs:step Gl tm H na (.sliceStr x' lo' hi')=some (v,e)) {o:Oper} (ho:o.op = .slice t x lo hi none):Q34 θ H w na v e ((execOp a.eval o).run P w):=by
 simp only [step] at hs;have hrx:=Ze hT hx;generalize Q9 tm x'=vx at hs hrx;split at hs
 ·rename_i s;split at hs
  ·rename_i l h hl hh;split at hs
   ·rename_i hle;simp only [Qv,Lb,Lg] at hs;obtain ⟨rfl,rfl⟩:=hs;refine Qk (cv := .string ⟨⟨(s.take h).drop l⟩⟩) hH ?_ (Qvq _);have e1:=Qb8 hrx;have hsz:(⟨⟨s⟩⟩:ByteArray).size=s.length:=rfl
    have hext:(⟨⟨s⟩⟩:ByteArray).extract l h=⟨⟨(s.take h).drop l⟩⟩:=by
     apply ByteArray.ext;simp [List.drop_take]
    rcases Q62 hT hlo hl with ⟨rfl,rfl⟩ | ⟨zl,kl,ml,rfl,el,l0,rfl⟩<;>rcases Q62 hT hhi hh with ⟨rfl,rfl⟩ | ⟨zh,kh,mh,rfl,eh,h0,rfl⟩
    ·exact gc
    ·exact bn
    ·exact bn
    have b1:mh≤s.length:=by omega
    have b2:ml≤mh:=by omega
    simp [execOp,ho,e1,Instr.sliceAt,Instr.slice,Instr.sliceBounds,Instr.sliceBound,run_underlying ht,Result.andThen,hsz,el,eh,asIntOf,l0,h0,b1]
    grind
   simp_all
  simp_all
 simp_all

def Qk1 (hT:TmOk θ (Qu θ H) w tm a) (hH:Hp θ H w) {esz:Nat} {x:Operand} {x':Opd} {lo' hi':Option Opd} (hx:Ql x x'=true) 
  {v:AV} {e:Eff} (hs:step Gl tm H na (.slice esz x' lo' hi')=some (v,e)) {o:Oper}
  (run:∀ (ad:Option Addr) (len cap l h:Nat),a.eval x = .slice ad len cap->Qbp 0 (lo'.map (Q9 tm))=some l->Qbp len (hi'.map (Q9 tm))=some h->l≤h->h≤len->len≤cap ->
   ∃ m,h≤m∧m≤cap∧(execOp a.eval o).run P w = .ok (.value (.slice (if m=l then ad else ad.map (·.add (l * esz))) (h - l) (m - l))) w):Q34 θ H w na v e ((execOp a.eval o).run P w):=by
 simp only [step] at hs;have hrx:=Ze hT hx;generalize hvx:Q9 tm x'=vx at hs hrx;split at hs
 ·rename_i es b off len;split at hs
  ·rename_i l h hl hh;split at hs
   ·rename_i hle;obtain ⟨rfl,h1,h2⟩:=hle;simp only [Qv,Lb,Lg] at hs;obtain ⟨rfl,rfl⟩:=hs;generalize hax:a.eval x=ax at hrx
    cases hrx with
    | sliceN _ _ _ oa=>
     have e1:h=0:=by omega
     have e2:l=0:=by omega
     subst e1;subst e2;obtain ⟨m,m1,m2,rm⟩:=run oa 0 0 0 0 hax hl hh (by omega) (by omega) (by omega)
     have e3:m=0:=by omega
     subst e3;refine Qk hH rm ?_;exact .sliceN _ _ _ oa
    | slice _ _ _ _ cap lc addr hθ he hlen hsz hadr=>
     obtain ⟨m,m1,m2,rm⟩:=run (some addr) len cap l h hax hl hh h1 h2 hlen;refine Qk hH rm ?_;have hml:m * es≤cap * es:=Np _ m2
     by_cases hc:m=l
     ·rw [Af hc]
      exact .slice _ _ _ _ _ lc addr hθ he (by omega) (by
       grind) (.inr (by omega))
     rw [Ae hc]
     have hadr':addr=⟨lc.blk,lc.off+off,none⟩:=by grind
     subst hadr';simp only [Mq,Addr.add_lit];refine .slice _ _ _ _ _ lc _ hθ he (by omega) ?_ (.inl (by simp))
     have:l * es+(m - l) * es=m * es:=gO
     omega
   simp_all
  simp_all
 ·rename_i es rows;split at hs
  ·rename_i l h hl hh;split at hs
   ·rename_i hle;obtain ⟨rfl,h1,h2⟩:=hle;simp only [Qv,Lb,Lg] at hs;obtain ⟨rfl,rfl⟩:=hs;generalize hax:a.eval x=ax at hrx
    cases hrx with
    | p _ _ hp=>
     cases hp with
     | sliceE _ ad cap hcn=>
      simp at h2;subst h2;simp at h1;subst h1;obtain ⟨m,m1,m2,rm⟩:=run ad 0 cap 0 0 hax hl hh (by omega) (by omega) (by omega);refine Qk hH rm ?_;simp only [List.take_nil,List.drop_nil]
      exact .p _ _ (.sliceE _ _ _ (fun h=>by
       cases ad<;>grind))
     | slice _ _ blk off cap val he hr hcap hS hc hone hv=>
      obtain ⟨m,m1,m2,rm⟩:=run (some ⟨blk,off,none⟩) rows.length cap l h hax hl hh h1 h2 hcap;refine Qk hH rm ?_
      have hlen:((rows.take h).drop l).length=h - l:=by grind
      by_cases hempty:h=l
      ·subst hempty
       have:(rows.take h).drop h = []:=by simp
       rw [this];simp only [Nat.sub_self];exact .p _ _ (.sliceE _ _ _ (fun h=>by grind))
      have hc':¬ m=l:=by omega
      rw [Ae hc'];simp only [Mq,Addr.add_lit];rw [← hlen];refine .p _ _ (.slice es _ blk (off+l * es) (m - l) (fun i j=>val (i+l) j) he (fun r hr'=>hr r (List.mem_of_mem_take (List.mem_of_mem_drop hr'))) (by omega) hS (fun i r hi j y hj=>?_) (fun i j=>hone _ _) (fun i r hi j y hj=>?_))
      ·grind
      grind
   simp_all
  simp_all
 simp_all

theorem Qyd (hT:TmOk θ (Qu θ H) w tm a) (hH:Hp θ H w) {t d:TypeId} {esz:Nat} {x:Operand} {lo hi:Option Operand} {x':Opd} {lo' hi':Option Opd} (hx:Ql x x'=true) (hlo:Q3b lo lo'=true) (hhi:Q3b hi hi'=true)
  (ht:P.underlying t=some (.slice d)) (hd:Qc2 P d esz=true) {v:AV} {e:Eff} (hs:step Gl tm H na (.slice esz x' lo' hi')=some (v,e)) {o:Oper} (ho:o.op = .slice t x lo hi none):Q34 θ H w na v e ((execOp a.eval o).run P w):=by
 refine Qk1 hT hH hx hs fun ad len cap l h hax hl hh h1 h2 h3=>⟨cap,by omega,Lh _,?_⟩;have hz:=Q1g hd w
 rcases Q62 hT hlo hl with ⟨rfl,rfl⟩ | ⟨zl,kl,ml,rfl,el,l0,rfl⟩<;>rcases Q62 hT hhi hh with ⟨rfl,rfl⟩ | ⟨zh,kh,mh,rfl,eh,h0,rfl⟩
 ·exact gc
 ·have b1:mh≤cap:=by omega
  exact bn
 ·exact bn
 ·have b1:mh≤cap:=by omega
  simp [execOp,ho,hax,Instr.sliceAt,Instr.slice,Instr.sliceBounds,Instr.sliceBound,run_underlying ht,Result.andThen,el,eh,asIntOf,l0,h0,b1]
  grind

theorem Quu (hT:TmOk θ (Qu θ H) w tm a) (hH:Hp θ H w) {t d:TypeId} {esz:Nat} {x:Operand} {lo:Option Operand} {hi mx:Operand} {x':Opd} {lo' hi' mx':Option Opd} (hx:Ql x x'=true) (hlo:Q3b lo lo'=true) (hhi:Q3b (some hi) hi'=true) (hmx:Q3b (some mx) mx'=true)
  (ht:P.underlying t=some (.slice d)) (hd:Qc2 P d esz=true) {v:AV} {e:Eff} (hs:step Gl tm H na (.slice3 esz x' lo' hi' mx')=some (v,e)) {o:Oper} (ho:o.op = .slice t x lo (some hi) (some mx)):Q34 θ H w na v e ((execOp a.eval o).run P w):=by
 simp only [step] at hs
 split at hs<;>try (cases hs;done)
 rename_i h9 m9 hh9 hm9
 split at hs<;>try (cases hs;done)
 rename_i he9;subst he9;have hs:step Gl tm H na (.slice esz x' lo' hi')=some (v,e):=hs;refine Qk1 hT hH hx hs fun ad len cap l h hax hl hh h1 h2 h3=>⟨h,Lh _,by omega,?_⟩;have hz:=Q1g hd w
 obtain ⟨eq1,_⟩ | ⟨zh,kh,mh,eq1,eh,h0,e1⟩:=Q62 hT hhi hh
 ·grind
 obtain ⟨eq2,_⟩ | ⟨zm,km,mm,eq2,em,m0,e2⟩:=Q62 hT hmx hm9
 ·grind
 obtain ⟨eq3,_⟩ | ⟨zh3,kh3,mh3,eq3,eh3,h03,e3⟩:=Q62 hT hhi hh9
 ·grind
 cases eq1;cases eq2;cases eq3;rw [eh] at eh3;cases eh3
 have c1:mm.toNat=h:=by omega
 have c2:mh.toNat=h:=e1.symm
 have b0:mm≤cap:=by omega
 have b1:mh≤(h:Int):=by omega
 have b2:max mm 0=mm:=by omega
 rcases Q62 hT hlo hl with ⟨rfl,rfl⟩ | ⟨zl,kl,ml,rfl,el,l0,rfl⟩
 ·simp [execOp,ho,hax,Instr.sliceAt,Instr.slice,Instr.sliceBounds,Instr.sliceBound,run_underlying ht,Result.andThen,hz,eh,em,asIntOf,h0,m0,b0,b1,b2,c1,c2]
 ·have b3:ml≤(h:Int):=by omega
  have b4:max mh 0=mh:=by omega
  simp [execOp,ho,hax,Instr.sliceAt,Instr.slice,Instr.sliceBounds,Instr.sliceBound,run_underlying ht,Result.andThen,hz,eh,em,el,asIntOf,l0,h0,m0,b0,b1,b2,b3,b4,c1,c2]

theorem Qmi (hT:TmOk θ (Qu θ H) w tm a) (hH:Hp θ H w) {t:TypeId} {f:Nat} {fs:Array Field} {fd:Field} (ht:P.underlying t=some (.struct fs)) (hf:fs[f]? = some fd) (hp:0<Qeg P fd.type)
  {x:Operand} {x':Opd} (hx:Ql x x'=true) {v:AV} {e:Eff} (hs:step Gl tm H na (.fieldAddr x' fd.offset)=some (v,e)) {o:Oper} (ho:o.op = .fieldAddr t x f):Q34 θ H w na v e ((execOp a.eval o).run P w):=by
 simp only [step] at hs;have hrx:=Ze hT hx;generalize Q9 tm x'=vx at hs hrx
 have run:∀ blk off,a.eval x = .pointer (some ⟨blk,off,none⟩)->(execOp a.eval o).run P w = .ok (.value (.pointer (some ⟨blk,off+fd.offset,none⟩))) w:=by
  intro blk off hax
  have hz:∃ n,(P.info? fd.type).map (·.size)=some n∧0<n:=by
   unfold Qeg at hp
   cases hi:P.info? fd.type with
   | none=>simp_all
   | some i=>simp_all
  obtain ⟨n,hn,hpos⟩:=hz
  have hsz:(sizeOf fd.type).run P w = .ok n w:=by
   cases hi:P.info? fd.type with
   | none=>simp_all
   | some i=>simp_all [sizeOf,typeInfo]
  have hne:¬ n=0:=by omega
  simp [execOp,ho,hax,Instr.fieldAt,run_underlying ht,hf,Instr.sureAddr,fieldPlace,hsz,hne,Result.andThen,Addr.add_lit]
 split at hs<;>try (cases hs;done)
 all_goals
  simp only [Qv,Lb,Lg] at hs;obtain ⟨rfl,rfl⟩:=hs;generalize hax:a.eval x=ax at hrx
 ·cases hrx with
  | ptr _ _ l hl=>exact Qk hH (run _ _ hax) (by rw [Ny];exact .ptr _ _ l hl)
 ·cases hrx;exact Qk hH (run _ _ hax) (.gptr _ _)
 rename_i cs
 cases hrx with
 | rptr _ blk off val hS hc h1 hv=>
  refine Qk hH (run _ _ hax) (.rptr _ blk (off+fd.offset) (fun j=>val (fd.offset+j)) (fun hne=>hS (fun h0=>hne (by simp_all))) (fun j y hj=>?_) (fun j=>h1 _) (fun j y hj=>?_))
  ·grind
  simp_all
end
end
end Go.Av
namespace Go.Av
noncomputable section
set_option maxHeartbeats 4000000
section
variable {P:Program} {Gl:Nat->Option (List PV)} {θ:Th} {H:List AObj} {w:World} {a:Act} {tm:List AV} {S:Nat->Prop} {na:Nat}

def Z2u {t:TypeId} {n:Nat} {b:Bool} (hn:Qc2 P t n=true) (hb:Qhu P t b=true) {C:Array Value} {off:Nat} {cv:Value}
  (h:(b=true∧cv = .agg ((C.toList.drop off).take n).toArray)∨(b=false∧((C.toList.drop off).take n).head? = some cv)) (w:World):(part t C off).run P w = .ok cv w:=by
 rcases h with ⟨rfl,rfl⟩ | ⟨rfl,hh⟩
 ·simp [part,Qe3 hb,Q1g hn,Result.andThen]
  grind
 ·have:C[off]? = some cv:=by simp_all [List.head?_eq_getElem?,List.getElem?_take]
  simp [part,Qe3 hb,this]

def Z23 {v:AV} {cv:Value} {cs:List AV} (h:RelV θ S w v cv) (hc:v.aggs? = some cs):∃ C,cv = .agg C∧RelVs θ S w cs C.toList:=by
 have hcells:v.cells? = some cs:=by
  unfold AV.aggs? at hc;split at hc
  ·exact i7
  ·exact i7
  cases hc
 have hr:=Qdi h hcells;unfold AV.aggs? at hc;split at hc
 ·cases h with | p _ _ hp=>cases hp with | agg _ C _ _ _=>exact ⟨C,rfl,hr⟩
 ·cases h with | agg _ C _ _ _=>exact ⟨C,rfl,hr⟩
 simp_all

theorem Qzp (hT:TmOk θ (Qu θ H) w tm a) (hH:Hp θ H w) {t:TypeId} {f:Nat} {fs:Array Field} {fd:Field} (ht:P.underlying t=some (.struct fs)) (hf:fs[f]? = some fd) {n:Nat} {b:Bool} (hn:Qc2 P fd.type n=true) (hb:Qhu P fd.type b=true)
  {x:Operand} {x':Opd} (hx:Ql x x'=true) {v:AV} {e:Eff} (hs:step Gl tm H na (.field x' fd.offset n b)=some (v,e)) {o:Oper} (ho:o.op = .field t x f):Q34 θ H w na v e ((execOp a.eval o).run P w):=by
 simp only [step] at hs;have hrx:=Ze hT hx
 cases hc:(Q9 tm x').aggs? with
 | none=>simp_all
 | some cs=>
  obtain ⟨C,hax,hr⟩:=Z23 hrx hc;simp only [hc] at hs
  cases h2:Q71 n (cs.drop fd.offset) with
  | none=>simp_all
  | some ds=>
   cases h3:sOf b ds with
   | none=>simp_all
   | some v'=>
    simp only [h2,h3,Lf,Qv,Lb,Lg] at hs;obtain ⟨rfl,rfl⟩:=hs;obtain ⟨rfl,hlen⟩:=Q5s h2;obtain ⟨cv,hcv,hrv⟩:=Qld ((hr.drop fd.offset).take n) h3;refine Qk hH ?_ hrv;have:=Z2u (C:=C) (off:=fd.offset) hn hb hcv w
    simp_all [execOp,Instr.field,run_underlying,asAgg]

theorem Qll (hT:TmOk θ (Qu θ H) w tm a) (hH:Hp θ H w) {t d:TypeId} {esz:Nat} (ht:P.underlying t=some (.slice d)) (hd:Qc2 P d esz=true)
  {x i:Operand} {x' i':Opd} (hx:Ql x x'=true) (hi:Ql i i'=true) {v:AV} {e:Eff} (hs:step Gl tm H na (.indexAddr esz x' i')=some (v,e)) {o:Oper} (ho:o.op = .indexAddr t x i):Q34 θ H w na v e ((execOp a.eval o).run P w):=by
 simp only [step] at hs;have hrx:=Ze hT hx;have hri:=Ze hT hi;generalize Q9 tm x'=vx at hs hrx;generalize Q9 tm i'=vi at hs hri
 have run:∀ blk off len cap k (m:Int),a.eval x = .slice (some ⟨blk,off,none⟩) len cap->a.eval i = .int k m->0≤m->m<len ->
   (execOp a.eval o).run P w = .ok (.value (.pointer (some ⟨blk,off+m.toNat * esz,none⟩))) w:=by
  intro blk off len cap k m hax hai h0 h1;have hz:=Q1g hd w;simp [execOp,ho,hax,hai,Instr.indexAt,run_underlying ht,asIntOf,h0,h1,hz,Result.andThen,Addr.add_lit]
 split at hs
 ·rename_i es b off len k m;split at hs
  ·rename_i hm;simp only [Qv,Lb,Lg] at hs;obtain ⟨rfl,rfl⟩:=hs;generalize hax:a.eval x=ax at hrx
   cases hrx with
   | sliceN _ _ _ _=>omega
   | slice _ _ _ _ cap lc addr hθ he hlen hsz hadr=>
    have hadr':addr=⟨lc.blk,lc.off+off,none⟩:=by grind
    subst hadr';exact Qk hH (run _ _ _ _ k m hax (Q3c hri) hm.1 hm.2) (by rw [Ny];exact .ptr _ _ lc hθ)
  simp_all
 ·rename_i es rows k m;split at hs
  ·rename_i hes;subst hes
   cases hr:idx rows m with
   | none=>simp_all
   | some r=>
    simp only [hr,Lf,Qv,Lb,Lg] at hs;obtain ⟨rfl,rfl⟩:=hs
    cases m with
    | negSucc m=>simp_all [idx]
    | ofNat m=>
     simp only [idx] at hr;have hlt:=(Ld.1 hr).1;generalize hax:a.eval x=ax at hrx
     cases hrx with
     | p _ _ hp=>
      cases hp with
      | sliceE _ ad cap _=>simp_all
      | slice _ _ blk off cap val he hrl hcap hS hc hone hv=>
       refine Qk hH (run _ _ _ _ k _ hax (Q3c hri) (by simp) (by simp_all)) (.rptr r blk _ (fun j=>val m j) (fun _=>hS) (fun j y hj=>?_) (fun j=>hone _ _) (fun j y hj=>hv m r hr j y hj))
       grind
  simp_all
 simp_all

theorem Qpn (hT:TmOk θ (Qu θ H) w tm a) (hH:Hp θ H w) {t d:TypeId} {n esz:Nat} (ht:P.underlying t=some (.array n d)) (hd:Qc2 P d esz=true)
  {x i:Operand} {x' i':Opd} (hx:Ql x x'=true) (hi:Ql i i'=true) {v:AV} {e:Eff} (hs:step Gl tm H na (.indexArr n esz x' i')=some (v,e)) {o:Oper} (ho:o.op = .indexAddr t x i):Q34 θ H w na v e ((execOp a.eval o).run P w):=by
 simp only [step] at hs;have hrx:=Ze hT hx;have hri:=Ze hT hi;generalize Q9 tm x'=vx at hs hrx;generalize Q9 tm i'=vi at hs hri
 have run:∀ blk off k (m:Int),a.eval x = .pointer (some ⟨blk,off,none⟩)->a.eval i = .int k m->0≤m->m<n ->
   (execOp a.eval o).run P w = .ok (.value (.pointer (some ⟨blk,off+m.toNat * esz,none⟩))) w:=by
  intro blk off k m hax hai h0 h1;have hz:=Q1g hd w;simp [execOp,ho,hax,hai,Instr.indexAt,Instr.sureAddr,run_underlying ht,asIntOf,h0,h1,hz,Result.andThen,Addr.add_lit]
 split at hs
 ·rename_i b off k m;split at hs
  ·rename_i hm;simp only [Qv,Lb,Lg] at hs;obtain ⟨rfl,rfl⟩:=hs;generalize hax:a.eval x=ax at hrx
   cases hrx with
   | ptr _ _ lc hθ=>exact Qk hH (run _ _ k m hax (Q3c hri) hm.1 hm.2) (by rw [Ny];exact .ptr _ _ lc hθ)
  simp_all
 ·rename_i b off k m;split at hs
  ·rename_i hm;simp only [Qv,Lb,Lg] at hs;obtain ⟨rfl,rfl⟩:=hs;generalize hax:a.eval x=ax at hrx;cases hrx;exact Qk hH (run _ _ k m hax (Q3c hri) hm.1 hm.2) (.gptr _ _)
  simp_all
 simp_all

theorem Qnl (hT:TmOk θ (Qu θ H) w tm a) (hH:Hp θ H w) {t:TypeId} (ht:P.underlying t=some .string)
  {x i:Operand} {x' i':Opd} (hx:Ql x x'=true) (hi:Ql i i'=true) {v:AV} {e:Eff} (hs:step Gl tm H na (.indexStr x' i')=some (v,e)) {o:Oper} (ho:o.op = .index t x i):Q34 θ H w na v e ((execOp a.eval o).run P w):=by
 simp only [step] at hs;have hrx:=Ze hT hx;have hri:=Ze hT hi;generalize Q9 tm x'=vx at hs hrx;generalize Q9 tm i'=vi at hs hri;split at hs
 ·rename_i s k m
  cases hr:idx s m with
  | none=>simp_all
  | some r=>
   simp only [hr,Lf,Qv,Lb,Lg] at hs;obtain ⟨rfl,rfl⟩:=hs
   cases m with
   | negSucc m=>simp_all [idx]
   | ofNat m=>
    simp only [idx] at hr
    have hget:(⟨⟨s⟩⟩:ByteArray)[m]? = some r:=by
     have hlt:=(Ld.1 hr).1;have hlt':m<(⟨⟨s⟩⟩:ByteArray).size:=hlt;rw [getElem?_pos (⟨⟨s⟩⟩:ByteArray) m hlt'];rw [La hlt] at hr;cases hr;rfl
    refine Qk hH ?_ (Q23 _ _);have e1:=Qb8 hrx;have e2:=Q3c hri
    simp_all [execOp,Instr.index,run_underlying,asIntOf]
 simp_all

theorem Qqj (hT:TmOk θ (Qu θ H) w tm a) (hH:Hp θ H w) {n:Nat} {x:Operand} {x':Opd} (hx:Ql x x'=true) {v:AV} {e:Eff} (hs:step Gl tm H na (.extract x' n)=some (v,e)) {o:Oper} (ho:o.op = .extract x n) :
  Q34 θ H w na v e ((execOp a.eval o).run P w):=by
 simp only [step] at hs;have hrx:=Ze hT hx;generalize Q9 tm x'=vx at hs hrx
 have run:∀ C:Array Value,a.eval x = .tuple C->n<C.size->(execOp a.eval o).run P w = .ok (.value (C.getD n Qr)) w:=by simp_all [execOp,Instr.extract]
 split at hs
 ·rename_i vs
  cases hr:vs[n]? with
  | none=>simp_all
  | some r=>
   simp only [hr,Lf,Qv,Lb,Lg] at hs;obtain ⟨rfl,rfl⟩:=hs;generalize hax:a.eval x=ax at hrx;cases hrx<;>grind [Qk]
 ·rename_i vs
  cases hr:vs[n]? with
  | none=>simp_all
  | some r=>
   simp only [hr,Lf,Qv,Lb,Lg] at hs;obtain ⟨rfl,rfl⟩:=hs;generalize hax:a.eval x=ax at hrx
   cases hrx with
   | p _ _ hp=>
    cases hp with
    | tuple _ C hn hv=>
     have hlt:n<C.size:=by grind
     exact Qk hH (run C hax hlt) (.p _ _ (hv n r hr))
 simp_all

def Qq6 (hT:TmOk θ (Qu θ H) w tm a) {xs:List Operand} {y:Opd} (h:Xc xs [y]=true):∃ x,xs = [x]∧RelV θ (Qu θ H) w (Q9 tm y) (a.eval x):=by
 cases xs<;>grind [Xc,Ze]
def Q9m (hT:TmOk θ (Qu θ H) w tm a) {xs:List Operand} {y z:Opd} (h:Xc xs [y,z]=true) :
  ∃ x x',xs = [x,x']∧RelV θ (Qu θ H) w (Q9 tm y) (a.eval x)∧RelV θ (Qu θ H) w (Q9 tm z) (a.eval x'):=by
 cases xs with
 | nil=>simp [Xc] at h
 | cons x xs=>
  cases xs<;>grind [Xc,Ze]
def Q8c {c:Call} {l:List Operand} (h:c.args.toList=l):c.args=l.toArray:=by
 grind

theorem Qup (hT:TmOk θ (Qu θ H) w tm a) (hH:Hp θ H w) {c:Call} {x':Opd} {t:TypeId} (hcal:c.callee = .builtin .len) (hx:Xc c.args.toList [x']=true) (hty:c.argTypes[0]? = some t)
  (ht:P.underlying t=some .string) {v:AV} {e:Eff} (hs:step Gl tm H na (.lenStr x')=some (v,e)) {o:Oper} (ho:o.op = .call c) :
  Q34 θ H w na v e ((execOp a.eval o).run P w):=by
 obtain ⟨x,hargs,hrx⟩:=Qq6 hT hx;have hargs:=Q8c hargs;simp only [step] at hs;generalize Q9 tm x'=vx at hs hrx;split at hs
 ·rename_i s;simp only [Qv,Lb,Lg] at hs;obtain ⟨rfl,rfl⟩:=hs;refine Qk hH ?_ (Q23 _ _);have e1:=Qb8 hrx;have hsz:(⟨⟨s⟩⟩:ByteArray).size=s.length:=rfl
  exact fJ
 simp_all
theorem Qyu (hT:TmOk θ (Qu θ H) w tm a) (hH:Hp θ H w) {c:Call} {x':Opd} {t d:TypeId} (hcal:c.callee = .builtin .len) (hx:Xc c.args.toList [x']=true) (hty:c.argTypes[0]? = some t)
  (ht:P.underlying t=some (.slice d)) {v:AV} {e:Eff} (hs:step Gl tm H na (.lenSl x')=some (v,e)) {o:Oper} (ho:o.op = .call c) :
  Q34 θ H w na v e ((execOp a.eval o).run P w):=by
 obtain ⟨x,hargs,hrx⟩:=Qq6 hT hx;have hargs:=Q8c hargs
 have run:∀ (ad:Option Addr) (len cap:Nat),a.eval x = .slice ad len cap->(execOp a.eval o).run P w = .ok (.value (.int .i64 len)) w:=fJ
 simp only [step] at hs;generalize Q9 tm x'=vx at hs hrx;split at hs
 ·simp only [Qv,Lb,Lg] at hs;obtain ⟨rfl,rfl⟩:=hs;generalize hax:a.eval x=ax at hrx
  cases hrx with
  | p _ _ hp=>
   cases hp<;>simp_all [Qk,Q23]
 ·grind [Qv,Qk,Q06,Q23]
 ·simp only [Qv,Lb,Lg] at hs;obtain ⟨rfl,rfl⟩:=hs;generalize hax:a.eval x=ax at hrx;cases hrx<;>simp_all [Qk,Q23]
 ·grind [Qv,Q8s,Qk,Q23]
 simp_all
theorem Que (hT:TmOk θ (Qu θ H) w tm a) (hH:Hp θ H w) {c:Call} {x':Opd} {t k d:TypeId} (hcal:c.callee = .builtin .len) (hx:Xc c.args.toList [x']=true) (hty:c.argTypes[0]? = some t)
  (ht:P.underlying t=some (.map k d)) {v:AV} {e:Eff} (hs:step Gl tm H na (.lenMap x')=some (v,e)) {o:Oper} (ho:o.op = .call c) :
  Q34 θ H w na v e ((execOp a.eval o).run P w):=by
 obtain ⟨x,hargs,hrx⟩:=Qq6 hT hx;have hargs:=Q8c hargs
 have run:∀ (r:Nat) (E:Array MapEntry) (clock:Nat),a.eval x = .map (some r)->w.heap[r]? = some (.map E clock)->(execOp a.eval o).run P w = .ok (.value (.int .i64 E.size)) w:=by simp_all [getObj,Sem.run,execOp,resolve,invoke,builtin,Builtin.len_,run_underlying,goInt]
 simp only [step] at hs;generalize Q9 tm x'=vx at hs hrx;split at hs
 ·simp only [Qv,Lb,Lg] at hs;obtain ⟨rfl,rfl⟩:=hs;generalize hax:a.eval x=ax at hrx
  cases hrx with
  | p _ _ hp=>
   cases hp<;>simp_all [Qk,execOp,resolve,invoke,builtin,Builtin.len_,run_underlying,goInt,Q23]
 ·simp only [Qv,Lb,Lg] at hs;obtain ⟨rfl,rfl⟩:=hs;generalize hax:a.eval x=ax at hrx
  cases hrx with
  | p _ _ hp=>
   cases hp<;>grind [Qk,Q23]
 ·rename_i r
  cases hr:H[r]? with
  | none=>simp_all
  | some ob=>
   cases ob<;>simp only [hr] at hs<;>simp_all;simp only [Qv,Lb,Lg] at hs;obtain ⟨rfl,rfl⟩:=hs;generalize hax:a.eval x=ax at hrx
   cases hrx with
   | map _ l hl=>
    obtain ⟨E,clock,h1,h2,h3⟩:=hH.obj r _ l hr hl<;>grind [Qk,Q23]
 simp_all
theorem Z5z (hT:TmOk θ (Qu θ H) w tm a) (hH:Hp θ H w) {c:Call} {x' y':Opd} (hcal:c.callee = .builtin .max) (hx:Xc c.args.toList [x',y']=true)
  {v:AV} {e:Eff} (hs:step Gl tm H na (.max x' y')=some (v,e)) {o:Oper} (ho:o.op = .call c):Q34 θ H w na v e ((execOp a.eval o).run P w):=by
 obtain ⟨x,y,hargs,hrx,hry⟩:=Q9m hT hx;have hargs:=Q8c hargs;simp only [step] at hs;generalize Q9 tm x'=vx at hs hrx;generalize Q9 tm y'=vy at hs hry;split at hs
 ·simp only [Qv,Lb,Lg] at hs;obtain ⟨rfl,rfl⟩:=hs;refine Qk hH ?_ (Q23 _ _);have e1:=Q3c hrx;have e2:=Q3c hry
  simp_all [execOp,resolve,invoke,builtin,Builtin.max_,Builtin.max2]
 simp_all
theorem Z5a (hT:TmOk θ (Qu θ H) w tm a) (hH:Hp θ H w) {c:Call} {x' y':Opd} (hcal:c.callee = .builtin .min) (hx:Xc c.args.toList [x',y']=true)
  {v:AV} {e:Eff} (hs:step Gl tm H na (.min x' y')=some (v,e)) {o:Oper} (ho:o.op = .call c):Q34 θ H w na v e ((execOp a.eval o).run P w):=by
 obtain ⟨x,y,hargs,hrx,hry⟩:=Q9m hT hx;have hargs:=Q8c hargs;simp only [step] at hs;generalize Q9 tm x'=vx at hs hrx;generalize Q9 tm y'=vy at hs hry;split at hs
 ·simp only [Qv,Lb,Lg] at hs;obtain ⟨rfl,rfl⟩:=hs;refine Qk hH ?_ (Q23 _ _);have e1:=Q3c hrx;have e2:=Q3c hry
  simp_all [execOp,resolve,invoke,builtin,Builtin.min_,Builtin.min2]
 simp_all
end
end
end Go.Av
namespace Go.Av
noncomputable section
section
variable {P:Program} {Gl:Nat->Option (List PV)} {θ:Th} {H:List AObj} {w:World} {a:Act} {tm:List AV} {S:Nat->Prop} {na:Nat}

theorem Qnd (N:Nat):∀ (r c:Nat),c≤N+(N+768) / 4->Builtin.growBy N r c≤N+(N+768) / 4
 | 0,c,h=>h
 | r+1,c,h=>by
  simp only [Builtin.growBy];split
  ·exact h
  exact Qnd N r _ (by omega)
theorem Qux (need cap:Nat) (h:cap<need):Builtin.nextslicecap need cap≤2 * need+512:=by
 grind [Builtin.nextslicecap,Qnd]
def Qr4 (need cap:Nat) (h:cap<need):Builtin.nextslicecap need cap≤2 * (need+4096):=by
 grind [Qux]
def Z73 (q m bytes:Nat) (h1:q≤2 * m) (hb:m * bytes≤17592186044416):q * bytes≤281474976710656:=by
 have h2:=Np bytes h1
 grind
def Qqu (need cap bytes:Nat) (h:cap<need) (hb:(need+4096) * bytes≤17592186044416):Builtin.nextslicecap need cap * bytes≤281474976710656:=
 Z73 (Builtin.nextslicecap need cap) (need+4096) bytes (Qr4 need cap h) hb
def Qj8 (w:World) (need old:Nat) (e:TypeId):need≤grownCap w need old e:=by
 unfold grownCap Question.cut;simp

def Z9h (hH:Hp θ H w) (hna:AlOk θ H na) {x:Nat} {o o':AObj} {l l':Loc} (ho:H[x]? = some o) (hlive:o.live=true) (hl : θ x=some l) (hb:l'.blk=l.blk)
  (w':World) (hsz:w'.heap.size=w.heap.size) (hsame:∀ c,c≠l.blk->w'.heap[c]? = w.heap[c]?) (hos:w'.os=w.os) (ht:w'.tape=w.tape) (hout:w'.output=w.output)
  (hob:∀ c,o.occ l c↔l.blk=c:=by intro c;exact Iff.rfl) (hoc:∀ c,o'.occ l' c->l'.blk=c:=by intro c h;exact h) :
  (RelObj (upθ θ na l') (Qu (upθ θ na l') (plc (H.set x .dead) na o')) w' o' l'->Hp (upθ θ na l') (plc (H.set x .dead) na o') w')∧Evo θ H w (upθ θ na l') (plc (H.set x .dead) na o') w':=by
 have hle:na≤(H.set x .dead).length:=by simpa using hna.le
 have hnx:na≠x:=by
  rintro rfl
  rcases hna with h | ⟨h,_⟩
  ·simp_all
  simp_all
 have hn:=hna.none hH
 have hext:∀ b lb,θ b=some lb->upθ θ na l' b=some lb:=fun b lb e=> eZ
 have get:∀ b ob,(plc (H.set x .dead) na o')[b]? = some ob->(b=na∧ob=o')∨(b≠na∧(b=x∧ob = .dead∨b≠x∧H[b]? = some ob)):=by grind [Qa0]
 have hnl:∀ c,c<w.heap.size->NL θ H c->NL (upθ θ na l') (plc (H.set x .dead) na o') c∧w'.heap[c]? = w.heap[c]? := by
  intro c hc hf;have hne:=hf x o l ho hlive hl;refine ⟨fun b ob lb hb' hbl hθ=>?_,hsame c (fun e=>hne ((hob c).2 e.symm))⟩
  rcases get b ob hb' with ⟨rfl,rfl⟩ | ⟨h1,⟨_,rfl⟩ | ⟨_,h2⟩⟩
  ·exact eZ
  ·cases hbl
  simp only [upθ,Ae h1] at hθ;exact hf b ob lb h2 hbl hθ
 have hfree:∀ c,c<w.heap.size->Qu θ H c->Qu (upθ θ na l') (plc (H.set x .dead) na o') c∧w'.heap[c]? = w.heap[c]? := fun c hc hf=>⟨⟨hf.1,(hnl c hc hf.2).1⟩,(hnl c hc hf.2).2⟩;refine ⟨fun hnew=>⟨?_,?_,?_,?_,?_,fun b R e hb'=>?_⟩,⟨hext,rfl,hnl,by omega,hos,ht,hout⟩⟩
 rotate_right
 ·rcases get b _ hb' with ⟨rfl,_⟩ | ⟨h1,⟨_,h2⟩ | ⟨_,h2⟩⟩
  ·exact dh
  ·grind
  exact (hH.tok b R e h2).imp fun _ e=>hext _ _ e
 ·intro b ob lb hb' hlb
  rcases get b ob hb' with ⟨rfl,rfl⟩ | ⟨h1,⟨_,rfl⟩ | ⟨h3,h2⟩⟩
  ·exact dh
  ·trivial
  simp only [upθ,Ae h1] at hlb;exact (hH.obj b ob lb h2 hlb).mono hext hfree (fun hbl c hc=>hsame _ (fun e=>hH.dist b x ob o lb l h2 ho hbl hlive hlb hl h3 c hc ((hob c).2 e.symm))) (by omega)
 ·intro p q op oq lp lq hp hq hpl hql htp htq hne
  have key:∀ z oz lz,(plc (H.set x .dead) na o')[z]? = some oz->oz.live=true->upθ θ na l' z=some lz->(z=na∧∀ c,oz.occ lz c->o.occ l c)∨(z≠na∧z≠x∧H[z]? = some oz ∧ θ z=some lz):=by
   intro z oz lz hz hzl htz
   rcases get z oz hz with ⟨rfl,rfl⟩ | ⟨h1,⟨_,rfl⟩ | ⟨h3,h2⟩⟩
   ·exact eZ
   ·cases hzl
   exact dh
  rcases key p op lp hp hpl htp with ⟨e1,e2⟩ | ⟨p1,p2,p3,p4⟩<;>rcases key q oq lq hq hql htq with ⟨f1,f2⟩ | ⟨q1,q2,q3,q4⟩
  ·omega
  ·exact fun c h1 h2=>hH.dist q x oq o lq l q3 ho hql hlive q4 hl q2 c h2 (e2 c h1)
  ·exact fun c h1 h2=>hH.dist p x op o lp l p3 ho hpl hlive p4 hl p2 c h1 (f2 c h2)
  exact hH.dist p q op oq lp lq p3 q3 hpl hql p4 q4 hne
 ·intro b hb';have h1:=(Qba (H:=H.set x .dead) (na:=na) o').1;have h2:=(Qba (H:=H.set x .dead) (na:=na) o').2 hle;simp at h1
  have:b≠na:=by omega
  simp only [upθ,Ae this];exact hH.fresh b (by omega)
 ·intro b ob lb hb' hbl hlb
  rcases get b ob hb' with ⟨rfl,rfl⟩ | ⟨h1,⟨_,rfl⟩ | ⟨_,h2⟩⟩
  ·simp only [upθ,Ak,Lb] at hlb;subst hlb;exact fun c hc=>hH.good x o l ho hlive hl c ((hob c).2 (hb▸hoc c hc))
  ·cases hbl
  simp only [upθ,Ae h1] at hlb;exact hH.good b ob lb h2 hbl hlb
 ·intro c hc;rw [hsz];exact hH.badlt c hc

def Q9q {β:Type} {e:Nat} (he:0<e):∀ (rows:List (List β)),(∀ r∈rows,r.length=e)->rows.flatten.length=rows.length * e∧∀ k,rows.flatten[k]? = (rows[k / e]?).bind (·[k % e]?)
 | [],_=>⟨by simp,fun k=>by simp⟩
 | r::rows,h=>by
  have hr:=h r (by simp);obtain ⟨h1,h2⟩:=Q9q he rows (fun q hq=>h q (by grind));refine ⟨by grind,fun k=>?_⟩;simp only [Nu]
  by_cases hk:k<e
  ·simp_all [List.getElem?_append_left,Nat.div_eq_of_lt,Nat.mod_eq_of_lt]
  ·rw [Lq (by omega),hr,h2]
   have e1:k / e=(k - e) / e+1:=by
    rw [← Nat.sub_add_cancel (show e≤k by omega),Nat.add_div_right _ he];simp
   have e2:k % e=(k - e) % e:=by
    conv=>lhs;rw [← Nat.sub_add_cancel (show e≤k by omega),Nat.add_mod_right]
   simp_all

def Qsx {esz:Nat} {rows:List (List PV)} {blk off:Nat} {val:Nat->Nat->Value} (he:0<esz) (hr:∀ r∈rows,r.length=esz)
  (hc:∀ (i:Nat) (r:List PV),rows[i]? = some r->∀ (j:Nat) (x:PV),r[j]? = some x->w.cell? ⟨blk,off+(i * esz+j),none⟩=some (val i j))
  (h1:∀ i j,(val i j).oneCell'=true) (hv:∀ (i:Nat) (r:List PV),rows[i]? = some r->∀ (j:Nat) (x:PV),r[j]? = some x->RelP S w x (val i j)) :
  ∃ vs,vs.length=rows.length * esz∧RelVs θ S w (rows.flatten.map .p) vs∧∀ (j:Nat) u,vs[j]? = some u->w.cell? ⟨blk,off+j,none⟩=some u:=by
 obtain ⟨hl,hg⟩:=Q9q he rows hr
 have split:∀ k,k<rows.length * esz->∃ r x,rows[k / esz]? = some r∧r[k % esz]? = some x∧rows.flatten[k]? = some x:=by
  intro k hk
  have h2:k / esz<rows.length:=by simp_all [Nat.div_lt_iff_lt_mul]
  have h3:k % esz<(rows[k / esz]).length:=by simp_all [Nat.mod_lt]
  refine ⟨_,(rows[k / esz])[k % esz],La h2,La h3,?_⟩;rw [hg,La h2];simp [h3]
 refine ⟨(List.range (rows.length * esz)).map fun k=>val (k / esz) (k % esz),by simp,.ofP (by grind) (fun c hc=>?_) (fun k x hx=>?_),fun k u hk=>?_⟩
 ·grind
 ·grind
 grind [Nat.div_add_mod]

def Z58 {tx:TypeId} {i:TypeInfo} {esz:Nat} (hsz:i.size=esz) (he:0<esz) (hk:(∃ e',P.underlying tx=some (.slice e'))∨P.underlying tx=some .string)
  (hH:Hp θ H w) (hG:GlobOK Gl θ H w) {vx:AV} {cx:Value} (hr:RelV θ (Qu θ H) w vx cx) {s:AV} {v:AV} {e:Eff} {bytes:Nat}
  (hs:Qjf H na esz bytes s vx=some (v,e)) :
  ∃ new n news,Qkm H na esz bytes s new n=some (v,e)∧RelVs θ (Qu θ H) w new news∧Src P i.size tx cx n news w:=by
 subst hsz
 have mk:∀ (ad:Addr) (n cap:Nat) (news:List Value),news.length=n * i.size->(∀ u∈news,u.oneCell'=true)->(∀ (j:Nat) u,news[j]? = some u->w.cell? (ad.add j)=some u)->Src P i.size tx (.slice (some ad) n cap) n news w:=
  fun ad n cap news h1 h2 h3=>⟨hk,fun _=>rfl,run_firstCells_some w i.size n ad n cap news h1 h3,run_firstCells_some w.drew i.size n ad n cap news h1 (by simp_all),h1,h2⟩
 have mk0:∀ (cap:Nat),Src P i.size tx (.slice none 0 cap) 0 [] w:=
  fun cap=>⟨hk,fun _=>rfl,run_firstCells_none w i.size 0 0 cap,run_firstCells_none w.drew i.size 0 0 cap,by simp,fun _ h=>by cases h⟩
 unfold Qjf at hs;split at hs
 ·rename_i es b off n
  cases hob:H[b]? with
  | none=>simp_all
  | some ob=>
   cases ob<;>simp only [hob] at hs<;>try (cases hs;done)
   rename_i cs;split at hs
   ·rename_i hes;subst hes
    cases ht:Q71 (n * i.size) (cs.drop off) with
    | none=>simp_all
    | some new=>
     simp only [ht,Lf] at hs;obtain ⟨rfl,hlen⟩:=Q5s ht
     cases hr with
     | sliceN _ _ _ oa=>exact ⟨_,0,[],hs,eA,(match oa with | none=>mk0 0 | some ad=>mk ad 0 0 [] (by simp) (fun _ h=>by cases h) (fun j u h=>by grind))⟩
     | slice _ _ _ _ cap lc addr hθ he' hle hsize hadr=>
      obtain ⟨ad,vs,e1,_,hrel,hcell⟩:=Q5q (v := .ptr b off) (cv := .pointer (some ⟨lc.blk,lc.off+off,none⟩)) hH hG (.ptr b off lc hθ) (cs:=cs.drop off) (by simp [Q2q,hob]);cases e1;refine ⟨_,n,vs.take (n * i.size),hs,hrel.take _,?_⟩;have hl:=(hrel.take (n * i.size)).1;rw [hlen] at hl
      rcases hadr with rfl | hc0
      ·exact mk _ n cap _ hl (hrel.take _).2.1 (fun j u hj=>hcell j u (by
        grind))
      simp_all
   simp_all
 ·rename_i es rows;split at hs
  ·rename_i hes;subst hes
   cases hr with
   | p _ _ hp=>
    cases hp with
    | sliceE _ ad cap _=>
     refine ⟨_,0,[],hs,eA,?_⟩;cases ad<;>simp_all
    | slice _ _ blk off cap val he' hrl hcap hS hc hone hv=>
     obtain ⟨vs,h1,h2,h3⟩:=Qsx (θ := θ) he' hrl hc hone hv;exact ⟨_,_,vs,hs,h2,mk _ _ cap vs h1 h2.2.1 (fun j u hj=>by rw [Addr.add_lit];simp_all)⟩
  simp_all
 ·have:=Q06 hr;subst this;exact ⟨_,0,[],hs,.nil,mk0 0⟩
 ·obtain ⟨ad,rfl⟩:=Q8s hr;refine ⟨_,0,[],hs,.nil,?_⟩;cases ad<;>simp_all
 ·obtain ⟨ad,cap,rfl⟩:=Qwz hr;exact ⟨_,0,[],hs,.nil,mk ad 0 cap [] (by simp) (by simp) (by simp)⟩
 ·rename_i b;split at hs
  ·rename_i h1;have:=Qb8 hr;subst this;refine ⟨_,b.length,b.map fun c => .int .u8 c.toNat,hs,⟨by simp,fun c hc=>?_,fun j x hx=>?_⟩,?_⟩
   ·obtain ⟨y,_,rfl⟩:=Md.1 hc;rfl
   ·grind [Q23]
   have hz:(⟨⟨b⟩⟩:ByteArray).size=b.length:=rfl;have hb:byteCells ⟨⟨b⟩⟩=b.map fun c=>Value.int .u8 c.toNat:=rfl;have c1:=firstCells_string (P:=P) ⟨⟨b⟩⟩ w;have c2:=firstCells_string (P:=P) ⟨⟨b⟩⟩ w.drew;rw [hb,hz] at c1 c2;rw [h1];exact ⟨hk,fun _=>rfl,c1,c2,by simp,fun u hu=>by obtain ⟨y,_,rfl⟩:=Md.1 hu;rfl⟩
  simp_all
 simp_all

set_option maxHeartbeats 800000 in
theorem Qer (hT:TmOk θ (Qu θ H) w tm a) (hH:Hp θ H w) (hG:GlobOK Gl θ H w) (hna:AlOk θ H na) {c:Call} {s' x':Opd} {t u d:TypeId} {i:TypeInfo} {z:Value} {esz bytes:Nat} (hcal:c.callee = .builtin .append)
  (hx:Xc c.args.toList [s',x']=true) (hty:c.argTypes.toList = [t,u]) (ht:P.underlying t=some (.slice d)) (hi:P.info? d=some i) (hsz:i.size=esz) (hby:i.bytes=bytes) (he:0<esz) (hbp:0<bytes)
  (hz:i.zero=some z) (hzc:z.cells.size=esz) (hk:(∃ e',P.underlying u=some (.slice e'))∨P.underlying u=some .string)
  {v:AV} {e:Eff} (hs:step Gl tm H na (.append esz bytes s' x')=some (v,e)) {o:Oper} (ho:o.op = .call c):Q34 θ H w na v e ((execOp a.eval o).run P w):=by
 obtain ⟨sx,x,hargs,hrs,hrx⟩:=Q9m hT hx;have hargs:=Q8c hargs
 have hty':c.argTypes = #[t,u]:=by grind
 simp only [step] at hs;obtain ⟨new,n,news,hadd,hnew,hsrc⟩:=Z58 (Gl:=Gl) hsz he hk hH hG hrx hs
 have run:∀ r w',(Builtin.append_ #[t,u] o.type #[a.eval sx,a.eval x]).run P w = .ok r w'->(execOp a.eval o).run P w = .ok (.value r) w':=eO
 have hnl:=hsrc.newsLen;generalize Q9 tm s'=vs at hadd hrs;unfold Qkm at hadd;split at hadd
 ·rename_i hn0;subst hn0;have hnil:news = []:=Bo (by omega);subst hnil
  have nothing:∀ (ad:Option Addr) (len cap:Nat),a.eval sx = .slice ad len cap->len≤cap->(execOp a.eval o).run P w = .ok (.value (a.eval sx)) w:=by grind [run_append_nothing]
  generalize hax:a.eval sx=ax at hrs nothing
  split at hadd<;>try (cases hadd;done)
  all_goals
   simp only [Lb,Lg] at hadd;obtain ⟨rfl,rfl⟩:=hadd
  ·grind [Q06,Qk]
  ·have hrs':=hrs
   cases hrs with
   | p _ _ hp=>
    cases hp<;>simp_all [Qk]
  ·have hrs':=hrs;cases hrs<;>simp_all [Qk]
  grind [Q8s,Qk]
 rename_i hn0
 -- a new row
 have grow:∀ (ad:Option Addr) (len cap:Nat) (H':List AObj) (cs:List AV) (olds:List Value),a.eval sx = .slice ad len cap->cap<len+n->(len+n+4096) * bytes≤17592186044416->cs.length=len * esz ->
   (Builtin.firstCells i.size len (.slice ad len cap)).run P w.drew = .ok olds.toArray w.drew->Hp θ H' w->AlOk θ H' na->RelVs θ (Qu θ H') w (cs++new) (olds++news) ->
   Q34 θ H' w na (.slice esz na 0 (len+n)) { new:=some (.cells (cs++new)) } ((execOp a.eval o).run P w):=by
  intro ad len cap H' cs olds hax hcap hfit hlen hold hH' hna' hrel
  have hg:=run_append_grow_src (P:=P) w t u o.type d i z ht hi hz ad len cap olds hold _ n news hsrc hcap (by
   have h1:len+n+4096≤(len+n+4096) * bytes:=Nat.le_mul_of_pos_right _ hbp
   omega) (by simp_all [Qqu])
  rw [← hax] at hg;have hcapge:=Qj8 w (len+n) cap d
  have hzl:(Builtin.zeroCells z.cells (grownCap w (len+n) cap d - (len+n))).toList.length=(grownCap w (len+n) cap d - (len+n)) * esz:=by simp_all [Builtin.zeroCells]
  refine Qdo (n:=w.drawn+1) (t:=d) (cv := .slice (some ⟨w.heap.size,0,none⟩) (len+n) (grownCap w (len+n) cap d)) hH' hna' (Builtin.zeroCells z.cells (grownCap w (len+n) cap d - (len+n))).toList hrel ?_ (fun θ' S w' hθ=>?_)
  ·rw [run _ _ hg]
   have e:(olds++news).toArray++Builtin.zeroCells z.cells (grownCap w (len+n) cap d - (len+n))=((olds++news)++(Builtin.zeroCells z.cells (grownCap w (len+n) cap d - (len+n))).toList).toArray:=by simp
   rw [e];rfl
  refine .slice _ _ _ _ _ _ _ hθ he hcapge ?_ (.inl rfl);have h1:=hrel.1;simp only [Mp] at h1;rw [hzl];simp only [Mp]
  have:(len+n) * esz+(grownCap w (len+n) cap d - (len+n)) * esz=grownCap w (len+n) cap d * esz:=gO
  have h2:new.length=n * esz:=by have:=hnew.1;rw [hnl,hsz] at this;omega
  grind
 split at hadd<;>try (cases hadd;done)
 ·split at hadd
  ·rename_i hfit;simp only [Lb,Lg] at hadd;obtain ⟨rfl,rfl⟩:=hadd;have:=grow none 0 0 H [] [] (Q06 hrs) (by omega) (by simp_all) (by simp) (run_firstCells_none _ _ _ _ _) hH hna (by simp_all)
   simp_all
  simp_all
 ·rename_i es b off len
  cases hob:H[b]? with
  | none=>simp_all
  | some ob=>
   cases ob<;>simp only [hob] at hadd<;>try (cases hadd;done)
   rename_i cs;split at hadd
   ·rename_i hc;obtain ⟨rfl,htip,hfit⟩:=hc;simp only [Lb,Lg] at hadd;obtain ⟨rfl,rfl⟩:=hadd;generalize hax:a.eval sx=ax at hrs
    cases hrs with
    | sliceN _ _ _ oa=>
     obtain ⟨hk1,hk2⟩:=Qm4 hH hob rfl
     have hna':AlOk θ (H.set b .dead) na:=dy
     have hd0:cs.drop off = []:=Bg (by omega);have hg:=grow oa 0 0 (H.set b .dead) [] [] hax (by omega) hfit (by simp) (by cases oa with | none=>rfl | some ad=>grind [run_firstCells_some]) hk1 hna' (by simpa using hnew.mono hk2.ext hk2.free);obtain ⟨cv,w',θ',g1,g2,g3,g4,g5,g6⟩:=hg;rw [hd0];exact ik
    | slice _ _ _ _ cap lc addr hθ he' hle hsize hadr=>
     obtain ⟨ad,vs,e1,_,hrel,hcell⟩:=Q5q (v := .ptr b off) (cv := .pointer (some ⟨lc.blk,lc.off+off,none⟩)) hH hG (.ptr b off lc hθ) (cs:=cs.drop off) (by simp [Q2q,hob]);cases e1
     have hdl:(cs.drop off).length=len * es:=by grind
     by_cases hroom:len+n≤cap
     ·-- in place
      have hadr':addr=⟨lc.blk,lc.off+off,none⟩:=by grind
      subst hadr';obtain ⟨C,ct,fz,h1,h2,h3,h4,h5⟩:=hH.obj b _ lc hob hθ;have hmul:(len+n) * es≤cap * es:=Np _ hroom;rw [Cc] at hmul
      have hnl':news.length=n * es:=by simp_all
      have hr:=run_append_room_src (P:=P) w t u o.type d i ht hi lc.blk (lc.off+off) len cap _ n news hsrc hroom (fun j hj=>by
        unfold World.cell?
        grind) (fun j hj=>Qfe h1 h3 (by grind))
      rw [← hax] at hr;obtain ⟨C',c1,c2,c3⟩:=Qa6 lc.blk ct fz news (lc.off+off+len * i.size) w C h1 (by grind);obtain ⟨m1,m2,m3,m4⟩:=Q9w lc.blk news (lc.off+off+len * i.size) w;have hre:=Z9h (o' := .cells (cs.drop off++new)) (l':=⟨lc.blk,lc.off+off,lc.size⟩) hH hna hob rfl hθ rfl (w.setCells lc.blk (lc.off+off+len * i.size) news) m1 (fun c hc=>Q8i _ _ hc _ _ _) m2 m3 m4;have hrn:=hnew.mono hre.2.ext hre.2.free;have hro:=hrel.mono hre.2.ext hre.2.free;refine ⟨_,_,_,.inl (run _ _ hr),?_,hre.1 ?_,hre.2,fun q hq=>by simp [upθ,hq],fun h=>by cases h⟩
      ·exact .slice _ _ _ _ _ ⟨lc.blk,lc.off+off,lc.size⟩ _ (by simp [upθ]) he hroom (by omega) (.inl rfl)
      refine ⟨C',ct,fz,c1,c2.trans h2,fun j hj=>h3 j (by omega),?_,fun j y hj=>?_⟩
      ·simp only [Mp,hdl];have:=hnew.1;omega
      show RelV _ _ _ y (C'.getD (lc.off+off+j) Qr)∧(C'.getD (lc.off+off+j) Qr).oneCell'=true;rw [hsz] at c3;rw [c3]
      have hval:∀ j,j<len * es->C.getD (lc.off+off+j) Qr=vs.getD j Qr:=by
       intro j hj
       have hvl:j<vs.length:=by rw [hrel.1,hdl];exact hj
       have:=hcell j vs[j] (La hvl);rw [Addr.add_lit] at this;unfold World.cell? at this;simp only [h1] at this;simp at this
       simp_all
      by_cases hjl:j<len * es
      ·rw [Lm (by omega)] at hj;rw [Ae (by omega),hval j hjl];refine ⟨hro.2.2 j y hj,hro.2.1 _ ?_⟩
       have hvl:j<vs.length:=by rw [hrel.1,hdl];exact hjl
       grind
      rw [Lq (by omega),hdl] at hj;have hlt:=(Ld.1 hj).1;have hn1:=hnew.1;rw [Af (by omega)]
      have e3:lc.off+off+j - (lc.off+off+len * es)=j - len * es:=by omega
      rw [e3];refine ⟨hrn.2.2 _ y hj,hrn.2.1 _ ?_⟩<;>simp_all
     -- a new row
     obtain ⟨hk1,hk2⟩:=Qm4 hH hob rfl
     have hna':AlOk θ (H.set b .dead) na:=dy
     have hold:(Builtin.firstCells i.size len (.slice (some addr) len cap)).run P w.drew = .ok vs.toArray w.drew:=by
      refine run_firstCells_some w.drew i.size len addr len cap vs (by rw [hrel.1,hdl,hsz]) (fun j u hj=>?_)
      rcases hadr with rfl | hc0
      ·simp_all
      have:len=0:=by omega
      subst this;have hlt:=(Ld.1 hj).1;rw [hrel.1,hdl] at hlt;omega
     have hg:=grow (some addr) len cap (H.set b .dead) (cs.drop off) vs hax (by omega) hfit hdl hold hk1 hna' ((hrel.append hnew).mono hk2.ext hk2.free);obtain ⟨cv,w',θ',g1,g2,g3,g4,g5,g6⟩:=hg;exact ik
   simp_all
 split at hadd
 ·rename_i hfit;simp only [Lb,Lg] at hadd;obtain ⟨rfl,rfl⟩:=hadd;obtain ⟨ad,hax⟩:=Q8s hrs
  have hold:(Builtin.firstCells i.size 0 (.slice ad 0 0)).run P w.drew = .ok ([]:List Value).toArray w.drew:=by
   cases ad with
   | none=>rfl
   | some ad=>grind [run_firstCells_some]
  have:=grow ad 0 0 H [] [] hax (by omega) (by simp_all) (by simp) hold hH hna (by simp_all)
  simp_all
 simp_all
end
end
end Go.Av
namespace Go.Av
noncomputable section
set_option maxHeartbeats 4000000
section
variable {P:Program} {Gl:Nat->Option (List PV)} {θ:Th} {H:List AObj} {w:World} {a:Act} {tm:List AV} {S:Nat->Prop} {na:Nat}

def Qh4 (off:Nat):∀ (vs:List Value) (i:Nat) (cs:Array Value),off+i+vs.length≤cs.size ->
  ((vs.zipIdx i).foldl (fun cs (p:Value×Nat)=>cs.setIfInBounds (off+p.2) p.1) cs).size=cs.size ∧
  ∀ j,((vs.zipIdx i).foldl (fun cs (p:Value×Nat)=>cs.setIfInBounds (off+p.2) p.1) cs)[j]? = if off+i≤j∧j<off+i+vs.length then vs[j - (off+i)]? else cs[j]?
 | [],i,cs,_=>⟨rfl,fun j=>by
  simp_all [Ae]⟩
 | v::vs,i,cs,h=>by
  simp only [Mj] at h;obtain ⟨h1,h2⟩:=Qh4 off vs (i+1) (cs.setIfInBounds (off+i) v) (by grind)
  grind [List.zipIdx_cons]

def Qyz (off:Nat) (vs:List Value) (cs:Array Value) (h:off+vs.length≤cs.size) :
  ((vs.zipIdx 0).foldl (fun cs (p:Value×Nat)=>cs.setIfInBounds (off+p.2) p.1) cs).toList=cs.toList.take off++(vs++cs.toList.drop (off+vs.length)):=by
 obtain ⟨h1,h2⟩:=Qh4 off vs 0 cs (by omega);apply Lw;intro j;rw [Nx,h2]
 grind

theorem Qu9 {cs v:List AV} {vs us:List Value} (h:RelVs θ S w cs vs) (hv:RelVs θ S w v us) (off:Nat):RelVs θ S w (Q44 cs off v) (vs.take off++(us++vs.drop (off+us.length))):=by
 unfold Q44;rw [hv.1];exact (h.take off).append (hv.append (h.drop _))

def Qpo (place:Nat->Option (Nat×Nat)):∀ (l:List (Nat×Value)) (C D:Array Value),Instr.fill place C l=some D->D.size=C.size
 | [],C,D,h=>by simp_all [Instr.fill]
 | (i,v)::r,C,D,h=>by
  simp only [Instr.fill] at h
  cases hp:place i with
  | none=>simp_all
  | some om=>
   obtain ⟨o,m⟩:=om;simp only [hp] at h;split at h
   ·cases h
   ·rename_i hc;rw [Qpo place r _ D h,← Array.foldl_toList];have h1:=(Qh4 o v.cells.toList 0 C (by grind)).1
    simp_all

def Qgo (hT:TmOk θ (Qu θ H) w tm a) (place:Nat->Option (Nat×Nat)):∀ (ps:List (Nat×Operand)) (qs:List (Nat×Nat×Opd)) (cells:List AV) (C:Array Value) (out:List AV),Q4y place ps qs=true ->
  RelVs θ (Qu θ H) w cells C.toList->Qbe tm cells qs=some out ->
  ∃ D,Instr.fill place C (ps.map fun (i,x)=>(i,a.eval x))=some D∧RelVs θ (Qu θ H) w out D.toList
 | [],[],cells,C,out,_,hc,hs=>by
  simp only [Qbe,Lb] at hs;subst hs;exact ⟨C,rfl,hc⟩
 | (i,x)::ps,(off,n,y)::qs,cells,C,out,hk,hc,hs=>by
  simp only [Q4y,Le] at hk;obtain ⟨⟨h1,h2⟩,h3⟩:=hk
  cases hp:place i with
  | none=>simp_all
  | some om=>
   obtain ⟨o',m⟩:=om;simp [hp] at h1;obtain ⟨rfl,rfl⟩:=h1;simp only [Qbe] at hs
   cases hv:(Q9 tm y).cells? with
   | none=>simp_all
   | some v=>
    simp only [hv] at hs;split at hs
    ·rename_i hle;obtain ⟨hl,hle⟩:=hle;have hr:=Qdi (Ze hT h2) hv;have hcl:=hc.1;have hrl:=hr.1;simp at hcl hrl;have hf:=Qyz o' (a.eval x).cells.toList C (by simp_all)
     have hz:((a.eval x).cells.zipIdx).toList=(a.eval x).cells.toList.zipIdx 0:=by simp
     obtain ⟨D,hd1,hd2⟩:=Qgo hT place ps qs (Q44 cells o' v) ((a.eval x).cells.zipIdx.foldl (fun cs (c,j)=>cs.setIfInBounds (o'+j) c) C) out h3 (by
      grind [Qu9]) hs
     simp_all [Instr.fill]
    simp_all
 | [],_::_,_,_,_,h,_,_=>by simp [Q4y] at h
 | _::_,[],_,_,_,h,_,_=>by simp [Q4y] at h

theorem Qyf (hT:TmOk θ (Qu θ H) w tm a) (hH:Hp θ H w) {t:TypeId} {z:List PV} {ps:Array (Nat×Operand)} {qs:List (Nat×Nat×Opd)} (hz:Qce P t z=true)
  (hd:(∃ fs:Array Field,P.underlying t=some (.struct fs)∧(∀ f∈fs,(P.info? f.type).isSome=true)∧Q4y (fun i=>fs[i]?.map fun f=>(f.offset,Qeg P f.type)) ps.toList qs=true) ∨
   ∃ n e,P.underlying t=some (.array n e)∧(P.info? e).isSome=true∧Q4y (fun i=>some (i * Qeg P e,Qeg P e)) ps.toList qs=true)
  {v:AV} {e:Eff} (hs:step Gl tm H na (.build z qs)=some (v,e)) {o:Oper} (ho:o.op = .build t ps):Q34 θ H w na v e ((execOp a.eval o).run P w):=by
 simp only [step] at hs
 cases hf:Qbe tm (z.map .p) qs with
 | none=>simp_all
 | some out=>
  simp only [hf,Lf,Qv,Lb,Lg] at hs;obtain ⟨rfl,rfl⟩:=hs;obtain ⟨i,zv,hi,hz1,hz2⟩:=Q9z hz;have hz3:=Qea (P:=P) hi hz1 w
  have szr:∀ (u:TypeId) (w:World),(P.info? u).isSome=true->(sizeOf u).run P w = .ok (Qeg P u) w:=by
   intro u w hu
   cases hiu:P.info? u with
   | none=>simp_all
   | some iu=>simp_all [sizeOf,typeInfo,Qeg]
  rcases hd with ⟨fs,ht,hfs,hck⟩ | ⟨n,el,ht,hel,hck⟩
  ·obtain ⟨D,hD1,hD2⟩:=Qgo hT _ _ _ _ zv.cells out hck (Qdy hz2) hf;refine Qk (cv := .agg D) hH ?_ (by have:=Qcz hD2;omega)
   have hm:∀ (l:List Field),(∀ f∈l,(P.info? f.type).isSome=true)->(l.mapM (m:=Sem) fun (f:Field)=>do pure (f.offset,← sizeOf f.type)).run P w = .ok (l.map fun (f:Field)=>(f.offset,Qeg P f.type)) w:=by
    intro l
    induction l with
    | nil=>simp
    | cons f l ih=>
     simp_all
   simp_all [Array.mapM_eq_mapM_toList,execOp,Instr.build,run_underlying]
  ·obtain ⟨D,hD1,hD2⟩:=Qgo hT _ _ _ _ zv.cells out hck (Qdy hz2) hf;refine Qk (cv := .agg D) hH ?_ (by have:=Qcz hD2;omega)
   simp_all [execOp,Instr.build,run_underlying]

def Qcg (z:List Value) (n:Nat) (hz:0<z.length):((Array.range (n * z.length)).map (fun i=>z.toArray[i % z.length]!)).toList=(List.replicate n z).flatten:=by
 have hu:∀ r∈List.replicate n z,r.length=z.length:=fun r hr=>by simp_all
 obtain ⟨h1,h2⟩:=Q9q hz (List.replicate n z) hu;rw [List.length_replicate] at h1;apply Lw
 grind

theorem Qmy {z:List PV} {vs:List Value} (h:RelVs θ S w (z.map .p) vs):∀ n:Nat,RelVs θ S w ((List.replicate n z).flatten.map .p) (List.replicate n vs).flatten
 | 0=> eA
 | n+1=>by
  rw [Bp,Bp,Nu,Nu,Bc];exact h.append (Qmy h n)

theorem Qjx (hT:TmOk θ (Qu θ H) w tm a) (hH:Hp θ H w) (hna:AlOk θ H na) {t d:TypeId} {z:List PV} {len esz:Nat} {ps:Array (Nat×Operand)} {qs:List (Nat×Nat×Opd)} (ht:P.underlying t=some (.slice d)) (hsz:Qc2 P d esz=true)
  (hz:Qce P d z=true) (hzl:z.length=esz) (he:0<esz) (hlim:len * esz≤1048576) (hck:Q4y (fun i=>some (i * esz,esz)) ps.toList qs=true)
  {v:AV} {e:Eff} (hs:step Gl tm H na (.buildSlice z len esz qs)=some (v,e)) {o:Oper} (ho:o.op = .buildSlice t len ps):Q34 θ H w na v e ((execOp a.eval o).run P w):=by
 simp only [step] at hs
 cases hf:Qbe tm ((List.replicate len z).flatten.map .p) qs with
 | none=>simp_all
 | some out=>
  simp only [hf,Mq,Lb,Lg] at hs;obtain ⟨rfl,rfl⟩:=hs;obtain ⟨i,zv,hi,hz1,hz2⟩:=Q9z hz;have hz3:=Qea (P:=P) hi hz1 w;have hs1:=Q1g hsz w;have hzr:=Qdy (θ := θ) (S:=Qu θ H) (w:=w) hz2
  have hzl':zv.cells.toList.length=esz:=by rw [hzr.1];simpa using hzl
  have hpos:0<zv.cells.toList.length:=by omega
  have hflat:=Qcg zv.cells.toList len hpos;rw [hzl'] at hflat
  obtain ⟨D,hD1,hD2⟩:=Qgo hT _ _ _ _ ((Array.range (len * esz)).map (fun i=>zv.cells[i % zv.cells.size]!)) out hck (by
   grind [Qmy]) hf
  have hD1':Instr.fill (fun i=>some (i * esz,esz)) ((Array.range (len * esz)).map (fun i=>zv.cells[i % zv.cells.size]!)) (ps.map fun (i,x)=>(i,a.eval x)).toList=some D:=by simp_all
  have hDs:D.size=len * esz:=by
   have h1:=Qpo _ _ _ _ hD1';rw [h1];simp
  have hnot:¬ (len * esz>2 ^ 24):=by omega
  refine Qdo (n:=w.drawn) (t:=d) (cv := .slice (some ⟨w.heap.size,0,none⟩) len len) hH hna [] hD2 ?_ (fun θ' S w' h => .slice _ _ _ _ _ _ _ h he (Lh _) (by simp_all) (.inl rfl))
  have hfin:Result.ok (Next.value (.slice (some ⟨w.heap.size,0,none⟩) len len)) { w with heap:=w.heap.push (.cells D d) } = .ok (.value (.slice (some ⟨w.heap.size,0,none⟩) len len)) { w with heap:=w.heap.push (.cells (D.toList ++ []).toArray d),drawn:=w.drawn }:=by simp
  rw [← hfin]
  by_cases h0:len * esz=0
  ·have hD0:Instr.fill (fun i=>some (i * esz,esz)) ((Array.range (len * esz)).map (fun i=>(#[]:Array Value)[i % (#[]:Array Value).size]!)) (ps.map fun (i,x)=>(i,a.eval x)).toList=some D:=by grind
   simp_all [execOp,Instr.buildSlice,run_underlying,Result.andThen,newRow]
  simp_all [execOp,Instr.buildSlice,run_underlying,Result.andThen,Ae,newRow]

theorem Qr6 (hH:Hp θ H w) (hna:AlOk θ H na) {t:TypeId} {v:AV} {e:Eff} (hs:step Gl tm H na .makeMap=some (v,e)) {o:Oper} (ho:o.op = .makeMap t none) :
  Q34 θ H w na v e ((execOp a.eval o).run P w):=by
 simp only [step,Lb,Lg] at hs;obtain ⟨rfl,rfl⟩:=hs;refine Qgv (n:=w.drawn) (cv := .map (some w.heap.size)) hH hna (.map #[] 0) (.map []) ⟨w.heap.size,0,0⟩ rfl ?_ (fun θ' S w' h => .map na _ h) (fun θ' S' h1 h2=>?_)
 ·simp_all [execOp,Instr.makeMap]
 ·exact ⟨#[],0,by simp,by simp,.nil,fun i k v h=>by grind⟩

def Ql0 (n:Int) (h0:0≤n) (h1:n≤1099511627776):IntKind.i64.wrap n=n:=
 IntWalk.i64_in n (by omega)

theorem Qn3 (hT:TmOk θ (Qu θ H) w tm a) (hH:Hp θ H w) (hna:AlOk θ H na) {t d:TypeId} {z:List PV} {bytes:Nat} {l c:Operand} {l' c':Opd} (ht:P.underlying t=some (.slice d)) (hz:Qce P d z=true)
  (hsz:Qc2 P d z.length=true) (hby:Qcq P d bytes=true) (hzl:0<z.length) (hbp:0<bytes) (hl:Ql l l'=true) (hc:Ql c c'=true)
  {v:AV} {e:Eff} (hs:step Gl tm H na (.makeSlice z bytes l' c')=some (v,e)) {o:Oper} (ho:o.op = .makeSlice t l c):Q34 θ H w na v e ((execOp a.eval o).run P w):=by
 simp only [step] at hs;have hrl:=Ze hT hl;have hrc:=Ze hT hc;generalize Q9 tm l'=vl at hs hrl;generalize Q9 tm c'=vc at hs hrc;split at hs
 ·rename_i kl n kc m;split at hs
  ·rename_i hb;obtain ⟨b1,b2,b3⟩:=hb;simp only [Lb,Lg] at hs;obtain ⟨rfl,rfl⟩:=hs;obtain ⟨i,zv,hi,hz1,hz2⟩:=Q9z hz;have hz3:=Qea (P:=P) hi hz1 w;have hs1:=Q1g hsz w
   have hby':i.bytes=bytes:=by simp_all [Qcq]
   have hzr:=Qdy (θ := θ) (S:=Qu θ H) (w:=w) hz2
   have hzl':zv.cells.toList.length=z.length:=by rw [hzr.1];simp
   have hpos:0<zv.cells.toList.length:=by omega
   have hm40:m≤1099511627776:=by
    have:m * 1≤m * bytes:=Int.mul_le_mul_of_nonneg_left (by omega) (by omega);omega
   have w1:=Ql0 n b1 (by omega);have w2:=Ql0 m (by omega) hm40;have hflat:=Qcg zv.cells.toList m.toNat hpos;rw [hzl'] at hflat
   have hsplit:(List.replicate m.toNat zv.cells.toList).flatten=(List.replicate n.toNat zv.cells.toList).flatten++(List.replicate (m.toNat - n.toNat) zv.cells.toList).flatten:=by grind [List.replicate_append_replicate]
   have hcells:(Array.range (m.toNat * z.length)).map (fun i=>zv.cells[i % zv.cells.size]!)=((List.replicate n.toNat zv.cells.toList).flatten++(List.replicate (m.toNat - n.toNat) zv.cells.toList).flatten).toArray:=by
    apply Array.ext';rw [← hsplit,← hflat]
    have:zv.cells.size=z.length:=by omega
    simp_all
   have hlen1:∀ k:Nat,((List.replicate k zv.cells.toList).flatten).length=k * z.length:=by simp_all
   refine Qdo (n:=w.drawn) (t:=d) (cv := .slice (some ⟨w.heap.size,0,none⟩) n.toNat m.toNat) hH hna (List.replicate (m.toNat - n.toNat) zv.cells.toList).flatten (Qmy hzr n.toNat) ?_
    (fun θ' S w' h => .slice _ _ _ _ _ _ _ h hzl (by omega) (by
     grind) (.inl rfl))
   rw [← hcells]
   have t1:¬ (281474976710656<(bytes:Int) * m):=by grind
   have t2:¬ m<0:=by omega
   have t3:¬ n<0:=by omega
   have t4:¬ m<n:=by omega
   have e1:=Q3c hrl;have e2:=Q3c hrc
   have hroom:∀ b,(askRoom b).run P w = .ok () w:=by simp
   simp [execOp,ho,Instr.makeSlice,run_underlying ht,e1,e2,asInt,asIntOf,typeInfo,hi,hby',w1,w2,t1,t2,t3,t4,hroom,hs1,Result.andThen,newRow]
   grind
  simp_all
 simp_all

def Qqe (A:Array Obj) (x:Obj) (f:Obj->Obj):(A.push x).modify A.size f=A.push (f x):=by
 grind

def Qw0 {θ:Th} {S:Nat->Prop} {w:World} (s:List UInt8):RelVs θ S w (s.map fun b => .p (.int .u8 b.toNat)) (s.map fun b => .int .u8 b.toNat):=by
 refine ⟨by simp,fun c hc=>?_,fun j x hx=>?_⟩
 ·obtain ⟨b,_,rfl⟩:=Md.1 hc;rfl
 ·rw [Ll] at hx
  cases hb:s[j]? with
  | none=>simp_all
  | some b=>
   rw [hb] at hx;cases hx
   have:(s.map fun b:UInt8=>Value.int .u8 b.toNat).getD j Qr = .int .u8 b.toNat:=by simp_all
   rw [this];exact .p _ _ (.int _ _)

theorem Qrc (hT:TmOk θ (Qu θ H) w tm a) (hH:Hp θ H w) (hna:AlOk θ H na) {s d el:TypeId} (hsrc:P.underlying s=some .string) (hd:P.underlying d=some (.slice el)) (hel:P.underlying el=some (.int .u8)) {x:Operand} {x':Opd} (hx:Ql x x'=true)
  {v:AV} {e:Eff} (hs:step Gl tm H na (.bytesOf x')=some (v,e)) {o:Oper} (ho:o.op = .convert s d x):Q34 θ H w na v e ((execOp a.eval o).run P w):=by
 simp only [step] at hs;have hrx:=Ze hT hx;generalize Q9 tm x'=vx at hs hrx;split at hs
 ·rename_i b;simp only [Lb,Lg] at hs;obtain ⟨rfl,rfl⟩:=hs;have e1:=Qb8 hrx
  let cap:=grownCap w b.length 0 el
  have hcap:b.length≤cap:=Qj8 w b.length 0 el
  let vs:List Value:=b.map fun b => .int .u8 b.toNat
  let extra:List Value:=List.replicate (cap - b.length) (.int .u8 0)
  have hvs:vs.length=b.length:=by grind
  have hC:((⟨b⟩:Array UInt8).map fun b=>Value.int .u8 b.toNat)++Array.replicate (cap - b.length) (.int .u8 0)=(vs++extra).toArray:=by grind
  have hsz:(vs++extra).toArray.size=cap:=by grind
  refine Qgv (n:=w.drawn+1) (cv := .slice (some ⟨w.heap.size,0,none⟩) b.length cap) hH hna (.cells (vs++extra).toArray el (cap,cap+1)) (.cells (b.map fun b => .p (.int .u8 b.toNat))) ⟨w.heap.size,0,cap⟩ rfl ?_
   (fun θ' S w' h => .slice 1 na 0 b.length cap _ _ h (by omega) hcap (by simp) (.inl rfl)) (fun θ' S' h1 h2=>?_)
  ·have hq:(Question.appendCap b.length 0 el).forced=false:=rfl;have hcut:(Question.appendCap b.length 0 el).cut (w.tape w.drawn (.appendCap b.length 0 el))=cap:=rfl;have hbs:(⟨⟨b⟩⟩:ByteArray).size=b.length:=rfl;simp only [execOp,ho,e1,convert,Sem.run_bind,run_underlying hsrc,run_underlying hd,run_underlying hel,Result.andThen,Conv.stringToBytes,hbs,run_choose,hq,hcut,Mg,Al,newRow,run_newObj,hC,markStringish,run_shape]
   simp_all [World.shape?,World.freeze,Qqe]
  have hr:=Qw0 (θ := θ) (S:=Qu θ H) (w:=w) b;refine ⟨(vs++extra).toArray,el,(cap,cap+1),by simp,hsz,fun j hj=>by omega,by simp_all,fun j v hj=>?_⟩;have hlt:=(Ld.1 hj).1;have hv':=hr.mono h1 h2
  have e:(vs++extra).toArray.getD (0+j) Qr=vs.getD j Qr:=by
   rw [Mb,Lr];simp only [Mi,List.getElem?_toArray]
   grind
  rw [e];refine ⟨hv'.2.2 j v hj,hr.2.1 _ ?_⟩
  grind
 simp_all

end
end
end Go.Av
namespace Go.Av
noncomputable section
set_option maxHeartbeats 4000000
section
variable {P:Program} {Gl:Nat->Option (List PV)} {θ:Th} {H:List AObj} {w:World} {a:Act} {tm:List AV} {S:Nat->Prop} {na:Nat}
def Qjq (s:ByteArray) (m:Nat) (w':World):(Builtin.firstCells 1 m (.string s)).run P w' = .ok ((byteCells s).take m).toArray w':=by
 simp [Builtin.firstCells,byteCells]
 grind
def Z2n (hH:Hp θ H w) (hG:GlobOK Gl θ H w) {vx:AV} {cx:Value} (hr:RelV θ (Qu θ H) w vx cx) {new:List AV} (hs:Qy3 H vx=some new) :
  ∃ news:List Value,RelVs θ (Qu θ H) w new news∧(Builtin.lenOf cx).run P w = .ok new.length w∧∀ m,m≤new.length->(Builtin.firstCells 1 m cx).run P w = .ok (news.take m).toArray w:=by
 have mk:∀ (ad:Addr) (n cap:Nat) (news:List Value),news.length=n->(∀ (j:Nat) u,news[j]? = some u->w.cell? (ad.add j)=some u) ->
   ∀ m,m≤n->(Builtin.firstCells 1 m (.slice (some ad) n cap)).run P w = .ok (news.take m).toArray w:=fun ad n cap news h1 h2 m hm=>
  run_firstCells_some w 1 m ad n cap (news.take m) (by simp_all) (fun j u hj=>h2 j u (by
   grind))
 unfold Qy3 at hs;split at hs
 ·rename_i es b off n
  cases hob:H[b]? with
  | none=>simp_all
  | some ob=>
   cases ob<;>simp only [hob] at hs<;>try (cases hs;done)
   rename_i cs;split at hs
   ·rename_i hes;subst hes;obtain ⟨rfl,hlen⟩:=Q5s hs
    cases hr with
    | sliceN _ _ _ oa=>exact ⟨[],eA,by rfl,fun m hm=>by
      have:m=0:=by omega
      subst this
      cases oa<;>simp_all [run_firstCells_none]⟩
    | slice _ _ _ _ cap lc addr hθ he' hle hsize hadr=>
     obtain ⟨ad,vs,e1,_,hrel,hcell⟩:=Q5q (v := .ptr b off) (cv := .pointer (some ⟨lc.blk,lc.off+off,none⟩)) hH hG (.ptr b off lc hθ) (cs:=cs.drop off) (by simp [Q2q,hob]);cases e1;have hl:=(hrel.take n).1;rw [hlen] at hl;refine ⟨vs.take n,hrel.take _,by rw [hlen];rfl,?_⟩<;>grind
   simp_all
 ·rename_i es rows;split at hs
  ·rename_i hes;subst hes;cases hs
   cases hr with
   | p _ _ hp=>
    cases hp with
    | sliceE _ ad cap _=>
     refine ⟨[],eA,by rfl,?_⟩;intro m hm
     have:m=0:=by simp_all
     subst this;cases ad<;>simp_all [run_firstCells_none]
    | slice _ _ blk off cap val he' hrl hcap hS hc hone hv=>
     obtain ⟨vs,h1,h2,h3⟩:=Qsx (θ := θ) he' hrl hc hone hv
     have hln:(rows.flatten.map AV.p).length=rows.length:=by rw [← h2.1,h1];simp
     refine ⟨vs,h2,by rw [hln];rfl,?_⟩<;>grind [Addr.add_lit]
  simp_all
 ·cases hs;have:=Q06 hr;subst this;refine ⟨[],.nil,rfl,fun m hm=>?_⟩<;>simp_all [run_firstCells_none]
 ·rename_i b;cases hs;have:=Qb8 hr;subst this;refine ⟨b.map fun c => .int .u8 c.toNat,⟨by simp,fun c hc=>?_,fun j x hx=>?_⟩,?_,fun m hm=>?_⟩
  ·obtain ⟨y,_,rfl⟩:=Md.1 hc;rfl
  ·grind [Q23]
  ·rw [Mf];rfl
  exact Qjq (P:=P) ⟨⟨b⟩⟩ m w
 simp_all
theorem Z0o (hT:TmOk θ (Qu θ H) w tm a) (hH:Hp θ H w) (hG:GlobOK Gl θ H w) {c:Call} {d' s':Opd} {t u d:TypeId} {i:TypeInfo} (hcal:c.callee = .builtin .copy)
  (hx:Xc c.args.toList [d',s']=true) (hty:c.argTypes.toList = [t,u]) (ht:P.underlying t=some (.slice d)) (hi:P.info? d=some i) (hsz:i.size=1)
  {v:AV} {e:Eff} (hs:step Gl tm H na (.copyB d' s')=some (v,e)) {o:Oper} (ho:o.op = .call c):Q34 θ H w na v e ((execOp a.eval o).run P w):=by
 obtain ⟨sx,x,hargs,hrs,hrx⟩:=Q9m hT hx;have hargs:=Q8c hargs
 have hty':c.argTypes = #[t,u]:=by grind
 simp only [step] at hs
 cases hsr:Qy3 H (Q9 tm s') with
 | none=>simp_all
 | some new=>
  simp only [hsr,Lf] at hs;obtain ⟨news,h1,h2,h3⟩:=Z2n (P:=P) hH hG hrx hsr
  have run:∀ r w',(Builtin.copy_ #[t,u] o.type #[a.eval sx,a.eval x]).run P w = .ok r w'->(execOp a.eval o).run P w = .ok (.value r) w':=eO
  generalize Q9 tm d'=vd at hs hrs;unfold Qr0 at hs;split at hs
  ·cases hs;have hax:=Q06 hrs;refine ⟨.int .i64 0,w,θ,.inl (run _ _ ?_),?_,hH,.refl _ _ _,fun _ _=>rfl,fun _=>rfl⟩
   ·exact iF
   exact Q23 _ _
  ·rename_i es b off len
   cases hob:H[b]? with
   | none=>simp_all
   | some ob=>
    cases ob<;>simp only [hob] at hs<;>try (cases hs;done)
    rename_i cs;split at hs
    ·rename_i hc;obtain ⟨rfl,hle,hl1⟩:=hc;cases hs;generalize hax:a.eval sx=ax at hrs
     cases hrs with
     | sliceN _ _ _ _=>omega
     | slice _ _ _ _ cap lc addr hθ he' hle2 hsize hadr=>
      rcases hadr with rfl | hc0
      ·have htk:(new.take len).length=Nat.min new.length len:=by grind
       have hrel:=h1.take len;obtain ⟨w1,w2,w3⟩:=Qof hH hob hθ hrel (off:=off) (by grind);refine ⟨.int .i64 ((new.take len).length:Nat),_,θ,.inl (run _ _ ?_),Q23 _ _,w2,w3,fun _ _=>rfl,fun _=>rfl⟩;have h30:=h3 (Nat.min new.length len) (Nat.min_le_left _ _)
       have hnl:news.take (Nat.min new.length len)=news.take len:=by
        have hnn:=h1.1
        by_cases hq:len≤new.length
        ·simp_all
        simp_all
       exact iF
      omega
    simp_all
  simp_all
theorem Qne (hT:TmOk θ (Qu θ H) w tm a) (hH:Hp θ H w) {t d:TypeId} {n esz:Nat} {x:Operand} {lo hi:Option Operand} {x':Opd} {lo' hi':Option Opd} (hx:Ql x x'=true) (hlo:Q3b lo lo'=true) (hhi:Q3b hi hi'=true)
  (ht:P.underlying t=some (.array n d)) (hd:Qc2 P d esz=true) (he:0<esz) {v:AV} {e:Eff} (hs:step Gl tm H na (.sliceArr n esz x' lo' hi')=some (v,e)) {o:Oper} (ho:o.op = .slice t x lo hi none):Q34 θ H w na v e ((execOp a.eval o).run P w):=by
 simp only [step] at hs;have hrx:=Ze hT hx
 have run:∀ (ad:Addr) (l h:Nat),a.eval x = .pointer (some ad)->Qbp 0 (lo'.map (Q9 tm))=some l->Qbp n (hi'.map (Q9 tm))=some h->l≤h->h≤n ->
   (execOp a.eval o).run P w = .ok (.value (.slice (some (if n=l then ad else ad.add (l * esz))) (h - l) (n - l))) w:=by
  intro ad l h hax hl hh h1 h2;have hz:=Q1g hd w
  rcases Q62 hT hlo hl with ⟨rfl,rfl⟩ | ⟨zl,kl,ml,rfl,el,l0,rfl⟩<;>rcases Q62 hT hhi hh with ⟨rfl,rfl⟩ | ⟨zh,kh,mh,rfl,eh,h0,rfl⟩
  ·simp_all [execOp,Instr.sliceAt,Instr.sliceBounds,Instr.sureAddr,run_underlying]
  ·exact eD
  ·exact eD
  have b1:mh≤n:=by omega
  simp [execOp,ho,hax,Instr.sliceAt,Instr.slice,Instr.sliceBounds,Instr.sliceBound,Instr.sureAddr,run_underlying ht,Result.andThen,el,eh,asIntOf,l0,h0,b1]
  grind
 generalize hvx:Q9 tm x'=vx at hs hrx;split at hs
 ·rename_i b off;split at hs
  ·rename_i cs hob;split at hs
   ·rename_i l h hl hh;split at hs
    ·rename_i hle;obtain ⟨h0,h1,h2⟩:=hle;simp only [Qv,Lb,Lg] at hs;obtain ⟨rfl,rfl⟩:=hs;generalize hax:a.eval x=ax at hrx
     cases hrx with
     | ptr _ _ lc hθ=>
      obtain ⟨C,t',fz,q1,q2,q3,q4,q5⟩:=hH.obj b _ lc hob hθ;refine Qk hH (run _ l h hax hl hh h1 h2) ?_
      have hmul:l * esz+(n - l) * esz=n * esz:=gO
      by_cases hc:n=l
      ·rw [Af hc];exact .slice _ _ _ _ _ lc _ hθ he (by omega) (by omega) (.inr (by omega))
      rw [Ae hc];simp only [Addr.add_lit];exact .slice _ _ _ _ _ lc _ hθ he (by omega) (by omega) (.inl (by simp))
    simp_all
   simp_all
  simp_all
 simp_all
def Z1z (hH:Hp θ H w) {b:Nat} {cs:List AV} (ho:H[b]? = some (.cells cs)) (n:Nat):Hp θ (H.set b (.cells (cs.take n))) w∧Evo θ H w θ (H.set b (.cells (cs.take n))) w:=by
 have hlt:=(Ld.1 ho).1
 have back:∀ (c:Nat) o,(H.set b (.cells (cs.take n)))[c]? = some o->o.live=true->∃ o',H[c]? = some o'∧o'.live=true∧∀ l x,o.occ l x->o'.occ l x:=fun c o h hl=>by
  by_cases hcb:c=b
  ·subst hcb;rw [Lt hlt] at h;cases h;exact ⟨_,ho,rfl,fun _ _ e=>e⟩
  grind
 have nl:∀ c,NL θ H c->NL θ (H.set b (.cells (cs.take n))) c:=fun c h c' o l hc' hl hθ=>by
  obtain ⟨o',h1,h2,h3⟩:=back c' o hc' hl;exact fun e=>h c' o' l h1 h2 hθ (h3 _ _ e)
 have e:Evo θ H w θ (H.set b (.cells (cs.take n))) w:=⟨fun _ _ h=>h,rfl,fun c _ h=>⟨nl c h,rfl⟩,Lh _,rfl,rfl,rfl⟩
 refine ⟨⟨fun c o l hc hl=>?_,fun c d oc od lc ld hc hd hlc hld=>?_,fun c hc=>hH.fresh c (by simp_all),fun c o l hc hl=>?_,hH.badlt,fun c R x hc=>by
  by_cases hcb:c=b
  ·simp_all
  rw [Lp (fun e=>hcb e.symm)] at hc;exact hH.tok c R x hc⟩,e⟩
 ·by_cases hcb:c=b
  ·subst hcb;rw [Lt hlt] at hc;cases hc;have:=(hH.obj c _ l ho hl).mono e.ext e.free (fun _ _ _=>rfl) (Lh _);obtain ⟨C,t,fz,h1,h2,h3,h4,h5⟩:=this;refine ⟨C,t,fz,h1,h2,h3,by grind,fun j v hv=>h5 j v ?_⟩
   grind
  rw [Lp (fun e=>hcb e.symm)] at hc;exact (hH.obj c o l hc hl).mono e.ext e.free (fun _ _ _=>rfl) (Lh _)
 ·obtain ⟨oc',h1,h2,h5⟩:=back c oc hc hlc;obtain ⟨od',h3,h4,h6⟩:=back d od hd hld;exact fun t1 t2 ne x x1 x2=>hH.dist c d oc' od' lc ld h1 h3 h2 h4 t1 t2 ne x (h5 _ _ x1) (h6 _ _ x2)
 obtain ⟨o',h1,h2,h3⟩:=back c o hc hl;exact fun t x hx=>hH.good c o' l h1 h2 t x (h3 _ _ hx)
theorem Qqg (hT:TmOk θ (Qu θ H) w tm a) (hH:Hp θ H w) (hG:GlobOK Gl θ H w) (hna:AlOk θ H na) {c:Call} {s' x':Opd} {t u d:TypeId} {i:TypeInfo} {z:Value} {esz bytes:Nat} (hcal:c.callee = .builtin .append)
  (hx:Xc c.args.toList [s',x']=true) (hty:c.argTypes.toList = [t,u]) (ht:P.underlying t=some (.slice d)) (hi:P.info? d=some i) (hsz:i.size=esz) (hby:i.bytes=bytes) (he:0<esz) (hbp:0<bytes)
  (hz:i.zero=some z) (hzc:z.cells.size=esz) (hk:(∃ e',P.underlying u=some (.slice e'))∨P.underlying u=some .string)
  {v:AV} {e:Eff} (hs:step Gl tm H na (.appendT esz bytes s' x')=some (v,e)) {o:Oper} (ho:o.op = .call c):Q34 θ H w na v e ((execOp a.eval o).run P w):=by
 simp only [step] at hs
 by_cases hsl:∃ es b off len,Q9 tm s' = .slice es b off len
 ·obtain ⟨es,b,off,len,hv⟩:=hsl;rw [hv] at hs;simp only [Qqw] at hs;split at hs
  ·rename_i cs hob;split at hs
   ·cases hq:Qjf (H.set b (.cells (cs.take (off+len * esz)))) na esz bytes (.slice es b off len) (Q9 tm x') with
    | none=>simp_all
    | some q=>
     obtain ⟨v',e'⟩:=q;simp only [hq,Mq,Lb,Lg] at hs;obtain ⟨rfl,rfl⟩:=hs;obtain ⟨h1,h2⟩:=Z1z hH hob (off+len * esz)
     have hna':AlOk θ (H.set b (.cells (cs.take (off+len * esz)))) na:=by
      rcases hna with rfl | ⟨q1,q2⟩
      ·exact .inl (by simp)
      refine .inr ⟨?_,q2⟩<;>grind
     have hs':step Gl tm (H.set b (.cells (cs.take (off+len * esz)))) na (.append esz bytes s' x')=some (v',e'):=by simp_all [step]
     obtain ⟨cv,w',θ',r1,r2,r3,r4,r5,r6⟩:=Qer ⟨hT.size,fun i v hv=>h2.relV (hT.val i v hv),hT.defers⟩ h1 (hG.evo h2) hna' hcal hx hty ht hi hsz hby he hbp hz hzc hk hs' ho;have hap:=Qo0 (Qqp hq) (.cells (cs.take (off+len * esz))) H na;exact ⟨cv,w',θ',r1,by simp_all,by simp_all,by rw [hap];exact h2.trans r4,r5,r6⟩
   simp_all
  simp_all
 have hs':step Gl tm H na (.append esz bytes s' x')=some (v,e):=by simp_all [step,Qqw]
 grind [Qer]
end
end
end Go.Av
