/- Part of FromsnBack: the law returns true; no condition. -/
import Derived.Test.YthbmcbacbhfnmaaGreatDoorAvFunc
import Derived.Orders
set_option linter.all false
namespace Go.Av
noncomputable section
set_option maxHeartbeats 4000000

section
variable {P:Program} {Gl:Nat->Option (List PV)}

theorem Q7d {tm tm':List AV} {x:Opd} (h:∀ t∈Xo x,tm'.getD t .any=tm.getD t .any):Q9 tm' x=Q9 tm x:=by
 cases x<;>simp_all [Xo,Q9]
theorem Q87 {tm tm':List AV} {xs:List Opd} (h:∀ t∈xs.flatMap Xo,tm'.getD t .any=tm.getD t .any):xs.map (Q9 tm')=xs.map (Q9 tm):=
 Ba fun x hx=>Q7d fun t ht=>h t (List.mem_flatMap.2 ⟨x,hx,ht⟩)
theorem Q6g {tm tm':List AV} {x:Option Opd} (h:∀ t∈x.toList.flatMap Xo,tm'.getD t .any=tm.getD t .any):x.map (Q9 tm')=x.map (Q9 tm):=by
 cases x<;>grind [Q7d]
def Qcv {tm tm':List AV}:∀ (ps:List (Nat×Nat×Opd)) (cells:List AV),(∀ t∈ps.flatMap (fun p=>Xo p.2.2),tm'.getD t .any=tm.getD t .any)->Qbe tm' cells ps=Qbe tm cells ps
 | [],_,_=>rfl
 | (o,n,x)::ps,cells,h=>by
  simp only [Qbe];rw [Q7d (x:=x) (fun t ht=>h t (by simp_all))]
  cases (Q9 tm x).cells? with
  | none=>rfl
  | some v=>
   dsimp only;split
   ·exact Qcv ps _ (fun t ht=>h t (by simp_all))
   ·rfl

theorem Q1z (tm:List AV) (x:Opd):Ji tm adK x=adK (Q9 tm x):=Zg _ _ _

theorem Qh0 {H H':List AObj} {na esz bytes:Nat} {vs vx:AV} {v:AV} {e:Eff} (hs:Qjf H na esz bytes vs vx=some (v,e)) (hr:∀ a∈adK vs++adK vx,∀ o,H[a]? = some o->H'[a]? = some o):Qjf H' na esz bytes vs vx=some (v,e):=by
 have hadd:∀ new n,Qkm H na esz bytes vs new n=some (v,e)->Qkm H' na esz bytes vs new n=some (v,e):=by
  intro new n h;unfold Qkm at h ⊢;split
  ·simp_all
  grind [adK]
 unfold Qjf at hs ⊢;split at hs<;>grind [adK,Q71]
def Qv4 {tm tm':List AV} {H H':List AObj} {na:Nat} {c:COp} {v:AV} {e:Eff} (hs:step Gl tm H na c=some (v,e)) (ht:∀ t∈c.slots,tm'.getD t .any=tm.getD t .any)
  (hr:∀ a∈(Q88 tm H c).1,∀ o,H[a]? = some o->H'[a]? = some o):step Gl tm' H' na c=some (v,e):=by
 have o1:∀ {x:Opd},(∀ t∈Xo x,t∈c.slots)->Q9 tm' x=Q9 tm x:=fun h=>Q7d fun t ht'=>ht t (h t ht')
 cases c with
 | call f args=>cases hs
 | callv f args=>cases hs
 | alloc z=>exact hs
 | makeMap=>exact hs
 | bad=>exact hs
 | load n b x=>
  simp only [step] at hs ⊢;rw [o1 (fun t h=>h)];simp only [Q88,fpN,Q1z] at hr
  have:∀ cs,Q2q Gl H (Q9 tm x)=some cs->Q2q Gl H' (Q9 tm x)=some cs:=by
   intro cs hc
   cases hv:Q9 tm x<;>simp only [hv,Q2q] at hc hr ⊢ <;> try exact hc
   rename_i a off
   cases ha:H[a]? with
   | none=>simp_all
   | some o=>simp_all [adK]
  cases hc:Q2q Gl H (Q9 tm x)<;>simp_all
 | store n x y=>
  simp only [step] at hs ⊢;rw [o1 (x:=x) (fun t h=> cw),o1 (x:=y) (fun t h=> cw)]
  exact fI
 | strOf x=>
  exact iN
 | del kk m k=>
  exact gT
 | insert kk m k x=>
  simp only [step] at hs ⊢;rw [o1 (x:=m) (fun t h=> cw),o1 (x:=k) (fun t h=> cw),o1 (x:=x) (fun t h=> cw)]
  exact fI
 | lookup kk z g ok m k=>
  exact gT
 | lenMap x=>
  exact iN
 | copyB d s=>
  simp only [step] at hs ⊢;rw [o1 (x:=d) (fun t h=> cw),o1 (x:=s) (fun t h=> cw)];simp only [Q88,fpN,Q1z] at hr
  cases hsr:Qy3 H (Q9 tm s) with
  | none=>simp_all
  | some new=>
   simp only [hsr,Lf] at hs
   have h1:Qy3 H' (Q9 tm s)=some new:=by
    unfold Qy3 at hsr ⊢;generalize Q9 tm s=vs at hsr hr ⊢;split at hsr
    ·grind [adK]
    all_goals omega
   have h2:Qr0 H' (Q9 tm d) new=some (v,e):=by
    unfold Qr0 at hs ⊢;generalize Q9 tm d=vd at hs hr ⊢;split at hs
    ·exact hs
    ·grind [adK]
    cases hs
   simp_all
 | append esz bytes s x=>
  grind [step,COp.slots,Q88,fpN,Q1z,Qh0]
 | appendT esz bytes s x=>
  simp only [step] at hs ⊢;rw [o1 (x:=s) (fun t h=> cw),o1 (x:=x) (fun t h=> cw)];simp only [Q88,fpN,Q1z] at hr;generalize Q9 tm s=vs at hs hr ⊢;generalize Q9 tm x=vx at hs hr ⊢;unfold Qqw at hs ⊢;split at hs
  ·rename_i es a off len
   cases ha:H[a]? with
   | none=>simp_all
   | some o=>
    have ha':=hr a (by simp [adK]) o ha;rw [ha'] ;rw [ha] at hs
    cases o<;>simp only [] at hs ⊢ <;> try (cases hs;done)
    rename_i cs;split at hs
    ·rename_i hle;rw [Af hle];cases hq:Qjf (H.set a (.cells (cs.take (off+len * esz)))) na esz bytes (.slice es a off len) vx<;>grind [Qh0]
    simp_all
  grind [Qh0]
 | build z ps=>exact im
 | buildSlice z len esz ps=>exact im
 | makeFunc fn p q=>
  grind [step,Q87,COp.slots]
 | sliceStr x lo hi=>
  grind [step,COp.slots,Q6g]
 | sliceArr n esz x lo hi=>
  simp only [step] at hs ⊢;rw [o1 (x:=x) (fun t h=> cw),Q6g (x:=lo) (fun t h=>ht t fS),Q6g (x:=hi) (fun t h=>ht t fS)]
  exact fI
 | slice esz x lo hi=>
  grind [step,COp.slots,Q6g]
 | slice3 esz x lo hi mx=>
  grind [step,COp.slots,Q6g]
 | pick x y z=>
  simp_all [step,COp.slots]
 | nextS x=>
  exact gT
 | runeStr x | mkIface _ x | asserT _ _ _ _ x | eqI _ x | eqF _ x | move x | box x | rangeS x | sliceZ x | eqN _ x | nilCheck x | not x | neg x | conv _ x | bytesOf x | fieldAddr x _ | field x _ _ _ | extract x _ | lenStr x | lenSl x=>
  simp only [step] at hs ⊢;rw [o1 (fun t h=>h)];exact hs
 | ari _ x y | cmp _ x y | eqB _ x y | eqP _ x y | eqAgg _ _ x y | makeSlice _ _ x y | indexAddr _ x y | indexArr _ _ x y | indexStr x y | max x y | min x y | extIx x y | extCt x y=>
  simp_all [step,COp.slots]
end
end
end Go.Av
namespace Go.Av
noncomputable section
set_option maxHeartbeats 4000000

structure Chg where
 sets:List (Nat×AObj)
 new:List AObj
def Q5l (sets:List (Nat×AObj)) (H:List AObj):List AObj:=sets.foldl (fun H s=>H.set s.1 s.2) H
def Qh1:List AObj->Nat->List AObj->List AObj
 | H,_,[]=>H
 | H,na,o::r=>Qh1 (plc H na o) (na+1) r
theorem Qbq:∀ (l H:List AObj) (na:Nat),H.length≤(Qh1 H na l).length∧(na≤H.length->na+l.length≤(Qh1 H na l).length)
 | [],H,na=>⟨Lh _,fun h=>h⟩
 | o::r,H,na=>by
  have h1:=Qba (H:=H) (na:=na) o;have h2:=Qbq r (plc H na o) (na+1)
  grind [Qh1]
theorem Q9u {x:Nat}:∀ (l H:List AObj) (na:Nat),na≤H.length->(Qh1 H na l)[x]? = if na≤x∧x<na+l.length then l[x - na]? else H[x]?
 | [],H,na,_=>by rw [Ae (by simp)];rfl
 | o::r,H,na,h=>by
  have h1:=(Qba (H:=H) (na:=na) o).2 h;rw [Qh1,Q9u r (plc H na o) (na+1) h1,Qa0 h]
  grind
theorem Qm1:∀ (l H:List AObj),Qh1 H H.length l=H++l
 | [],H=>by simp [Qh1]
 | o::r,H=>by
  have:plc H H.length o=H ++ [o]:=by simp_all [plc]
  rw [Qh1,this,show H.length+1=(H ++ [o]).length by simp,Qm1 r];simp
def Qpl:∀ (l H:List AObj) (na:Nat),na+l.length≤H.length->(Qh1 H na l).length=H.length
 | [],H,na,_=>rfl
 | o::r,H,na,h=>by
  simp only [Mj] at h
  have:(plc H na o).length=H.length:=by grind [plc]
  rw [Qh1,Qpl r (plc H na o) (na+1) (by omega),this]
def Chg.app (c:Chg) (H:List AObj) (na:Nat):List AObj:=Qh1 (Q5l c.sets H) na c.new
def Chg.aff (c:Chg) (na:Nat) (x:Nat):Prop:=x∈c.sets.map (·.1)∨(na≤x∧x<na+c.new.length)
def Eff.chg (e:Eff):Chg:=⟨e.set.toList,e.new.toList⟩
def Eff.chg_app (e:Eff) (H:List AObj) (na:Nat):e.chg.app H na=e.apply H na:=by
 obtain ⟨s,n⟩:=e;cases s<;>cases n<;>rfl

theorem Q3n (s:List (Nat×AObj)):∀ H,(Q5l s H).length=H.length:=by
 induction s<;>simp_all [Q5l]
def Qt4 {x:Nat}:∀ (s:List (Nat×AObj)) (H:List AObj),x ∉ s.map (·.1)->(Q5l s H)[x]? = H[x]?
 | [],H,_=>rfl
 | p::s,H,h=>by
  simp only [Mv,Lx,not_or] at h;show (Q5l s (H.set p.1 p.2))[x]? = _;rw [Qt4 s _ h.2,Lp (fun e=>h.1 e.symm)]
theorem Qhf {x:Nat}:∀ (s:List (Nat×AObj)) (H H':List AObj),H[x]? = H'[x]?->(Q5l s H)[x]? = (Q5l s H')[x]?
 | [],H,H',h=>h
 | p::s,H,H',h=>by
  refine Qhf s (H.set p.1 p.2) (H'.set p.1 p.2) ?_<;>grind
def Chg.len (c:Chg) (H:List AObj) (na:Nat):H.length≤(c.app H na).length:=by
 have:=(Qbq c.new (Q5l c.sets H) na).1;rw [Q3n] at this;exact this
theorem Chg.app_ne {c:Chg} {H:List AObj} {na x:Nat} (hna:na≤H.length) (h:¬ c.aff na x):(c.app H na)[x]? = H[x]? := by
 simp_all [Chg.aff,Chg.app,Q9u,Q3n,Ae,Qt4]

def pad (N:Nat) (H:List AObj):List AObj:=H++List.replicate (N - H.length) .dead
theorem Qlr {N:Nat} {H:List AObj} (h:H.length≤N):(pad N H).length=N:=by simp [pad];omega
theorem Qky {N:Nat} {H:List AObj} {x:Nat} (h:x<H.length):(pad N H)[x]? = H[x]? := by
 simp_all [pad,List.getElem?_append_left]
theorem Qyb {N:Nat} {H:List AObj} {x:Nat} (h:H.length≤x) (hx:x<N):(pad N H)[x]? = some .dead:=by
 simp_all [pad,List.getElem?_append_right,List.getElem?_replicate]
def Qgt (H:List AObj):pad H.length H=H:=by simp [pad]

def Chg.app_aff {c:Chg} {H H':List AObj} {x N:Nat} (hN:(c.app H H.length).length≤N) (hs:∀ s∈c.sets,s.1<H.length) (hl:H'.length=N) (he:H'[x]? = (pad N H)[x]?) (ha:c.aff H.length x) :
  (c.app H' H.length)[x]? = (pad N (c.app H H.length))[x]? := by
 have hle:H.length≤N:=Ma (c.len H H.length) hN;have hl2:=(Qbq c.new (Q5l c.sets H) H.length).2 (by simp_all [Q3n]);unfold Chg.app at hN ⊢;rw [Q9u _ _ _ (by rw [Q3n];omega)]
 by_cases hx:H.length≤x∧x<H.length+c.new.length
 ·rw [Af hx,Qky (by omega),Q9u _ _ _ (by simp_all [Q3n]),Af hx]
 rw [Ae hx]
 rcases ha with ha | ha<;>grind [Qky,Q3n,Q9u,Qhf]
def Chg.aff_lt {c:Chg} {H:List AObj} {x:Nat} (hs:∀ s∈c.sets,s.1<H.length) (h:c.aff H.length x):x<(c.app H H.length).length:=by
 rcases h with h | ⟨h,h'⟩<;>grind [Qbq,Q3n,Chg.app]
def Chg.pad_ne {c:Chg} {H:List AObj} {x N:Nat} (hN:(c.app H H.length).length≤N) (h:¬ c.aff H.length x):(pad N (c.app H H.length))[x]? = (pad N H)[x]? := by
 grind [Qky,Chg.app_ne,Qyb,Chg.app,Qm1,Q3n,Qlr]

section
variable (P:Program) (Gl:Nat->Option (List PV))

def Qs0 (f:Nat) (args:List AV) (H:List AObj) (na m:Nat) (Q:AV->List AObj->Prop):Prop:=
 Qm8 P f=true∧∀ θ w cargs,(∀ i,i<m->H[na+i]? = some .dead ∧ θ (na+i)=none)->Q6h θ (Qu θ H) w args cargs->Hp θ H w->GlobOK Gl θ H w ->
  Calls P f cargs w fun e w'=>∃ r cr H' θ',e = .returned cr∧Q r H'∧RelV θ' (Qu θ' H') w' r cr∧Hp θ' H' w'∧Evo θ H w θ' H' w'∧∀ b,¬ (na≤b∧b<na+m)->θ' b = θ b
def Wz (f:Nat) (args:List AV) (H:List AObj) (k:AV->List AObj->List Nat->List Nat->Prop):Prop:=
 (∃ (R:List Nat) (sets:List (Nat×AObj)) (r:AV),(∀ s∈sets,s.1<H.length) ∧
  (∀ H2:List AObj,(∀ a∈R,∀ o,H[a]? = some o->H2[a]? = some o)->Qq P Gl f args H2 (fun v H'=>v=r∧H'=Q5l sets H2))∧k r (Q5l sets H) R (sets.map (·.1))) ∨
 (∃ (R:List Nat) (obs:List AObj) (r:AV) (A:List Nat),(∀ x,H.length≤x->x<H.length+obs.length->x∈A) ∧
  (∀ H2:List AObj,(∀ a∈R,∀ o,H[a]? = some o->H2[a]? = some o)->Qs0 P Gl f args H2 H.length obs.length (fun v H'=>v=r∧H'=Qh1 H2 H.length obs))∧k r (Qh1 H H.length obs) R A)

def Q9j (c:COper) (tm:List AV):Prop:=match c.guard with
 | none=>True
 | some (t,want)=>tm.getD t .any = .p (.bool want)
def Qkq (tm:List AV) (d:Option Nat) (v:AV):List AV:=match d with
 | some d=>tm.set d v
 | none=>tm

inductive Did (c:COper) (tm:List AV) (H:List AObj):AV->Chg->List Nat->List Nat->Prop
 | skip (t:Nat) (want b:Bool) (hg:c.guard=some (t,want)) (hv:tm.getD t .any = .p (.bool b)) (hb:b≠want):Did c tm H Uw ⟨[],[]⟩ [] []
 | skipU (t:Nat) (want:Bool) (hg:c.guard=some (t,want)) (hv:tm.getD t .any = .p (.tuple [])):Did c tm H Uw ⟨[],[]⟩ [] []
 | run (v:AV) (e:Eff) (hw:Q9j c tm) (hc:c.op.isCall=false) (hs:step Gl tm H H.length c.op=some (v,e)):Did c tm H v e.chg (Q88 tm H c.op).1 (Q88 tm H c.op).2
 | call (v:AV) (sets:List (Nat×AObj)) (R:List Nat) (hw:Q9j c tm) (hc:c.op.isCall=true) (hs:∀ s∈sets,s.1<H.length)
   (h:∀ tm' H2,(∀ t∈c.op.slots,tm'.getD t .any=tm.getD t .any)->(∀ a∈R,∀ o,H[a]? = some o->H2[a]? = some o)->Q11 (EP P Gl) tm' H2 (fun v' H'=>v'=v∧H'=Q5l sets H2) c.op) :
   Did c tm H v ⟨sets,[]⟩ R (sets.map (·.1))
 | callN (v:AV) (obs:List AObj) (R A:List Nat) (hA:∀ x,H.length≤x->x<H.length+obs.length->x∈A) (hw:Q9j c tm) (hc:c.op.isCall=true)
   (h:∀ tm' H2,(∀ t∈c.op.slots,tm'.getD t .any=tm.getD t .any)->(∀ a∈R,∀ o,H[a]? = some o->H2[a]? = some o)->Qdp (fun f args=>Qs0 P Gl f args H2 H.length obs.length (fun v' H'=>v'=v∧H'=Qh1 H2 H.length obs)) tm' c.op) :
   Did c tm H v ⟨[],obs⟩ R A
end

section
variable {P:Program} {Gl:Nat->Option (List PV)}

def Z37 {H:List AObj} {na esz bytes:Nat} {vs vx v:AV} {e:Eff} (hs:Qjf H na esz bytes vs vx=some (v,e)):∀ q∈e.set,q.1<H.length∧q.1∈adK vs:=by
 have add:∀ new n,Qkm H na esz bytes vs new n=some (v,e)->∀ q∈e.set,q.1<H.length∧q.1∈adK vs:=by
  intro new n h;unfold Qkm at h;split at h
  ·grind
  grind [adK]
 unfold Qjf at hs
 exact ip
def Z0t {tm:List AV} {H:List AObj} {c:COp} {v:AV} {e:Eff} (hs:step Gl tm H H.length c=some (v,e)) :
  (∀ s∈e.set,s.1<H.length∧s.1∈(Q88 tm H c).2)∧(e.new.isSome=true->H.length∈(Q88 tm H c).2):=by
 have pr:∀ {v'},Qv v'=some (v,e)->(∀ s∈e.set,s.1<H.length∧s.1∈(Q88 tm H c).2)∧(e.new.isSome=true->H.length∈(Q88 tm H c).2):=by grind [Qv]
 have bnd:∀ {β:Type} {o:Option β} {f : β->AV},(o.bind fun b=>Qv (f b))=some (v,e)->(∀ s∈e.set,s.1<H.length∧s.1∈(Q88 tm H c).2)∧(e.new.isSome=true->H.length∈(Q88 tm H c).2):=ip
 have nw:∀ {v'} {o:AObj},H.length∈(Q88 tm H c).2->some (v',({ new:=some o }:Eff))=some (v,e)->(∀ s∈e.set,s.1<H.length∧s.1∈(Q88 tm H c).2)∧(e.new.isSome=true->H.length∈(Q88 tm H c).2):=by grind
 cases c
 case alloc z=>exact nw ir hs
 case box x=>
  simp only [step] at hs;cases hc:(Q9 tm x).cells? <;> grind [Q88,fpN]
 case buildSlice z len esz ps=>
  simp only [step] at hs;cases hc:Qbe tm ((List.replicate len z).flatten.map .p) ps<;>grind [Q88,fpN]
 case makeMap=>exact nw ir hs
 case bad=>cases hs
 case rangeS x=>
  grind [step,Q88,fpN]
 case nextS x=>
  exact gV
 case bytesOf x=>
  grind [step,Q88,fpN]
 case makeSlice z b l c'=>
  grind [step,Q88,fpN]
 case store n x y=>
  exact gV
 case asserT t z g ok x=>
  simp only [step] at hs
  have key:∀ q:Option AV,(q.bind fun z=>Qv (.tuple [z,.p (.bool false)]))=some (v,e)->∃ u,Qv u=some (v,e):=by
   intro q hq
   cases q with
   | none=>cases hq
   | some z=>grind
  grind
 case slice3 z9 x9 l9 h9 m9=>
  simp only [step,Qtg] at hs
  grind
 case del kk m k=>
  exact gV
 case insert kk m k x=>
  exact gV
 case sliceArr n esz x lo hi=>
  grind [step]
 case copyB d s=>
  simp only [step] at hs
  cases hsr:Qy3 H (Q9 tm s) with
  | none=>simp_all
  | some new=>
   simp only [hsr,Lf] at hs;unfold Qr0 at hs
   exact fI
 case append esz bytes s x=>
  simp only [step] at hs;refine ⟨fun q hq=>?_,fun _=> ir⟩;obtain ⟨h1,h2⟩:=Z37 hs q hq<;>simp_all [Q88,fpN,Q1z]
 case appendT esz bytes s x=>
  simp only [step] at hs;refine ⟨fun q hq=>?_,fun _=> ir⟩
  have key:q.1<H.length∧q.1∈adK (Q9 tm s):=by
   generalize Q9 tm s=vs at hs ⊢;unfold Qqw at hs;split at hs
   ·rename_i es a off len;split at hs
    ·rename_i cs ha;split at hs
     ·cases hr:Qjf (H.set a (.cells (cs.take (off+len * esz)))) H.length esz bytes (.slice es a off len) (Q9 tm x)<;>grind [Qqp,Eff.pre,adK]
     simp_all
    simp_all
   exact Z37 hs q hq
  simp_all [Q88,fpN,Q1z]
 case call=>cases hs
 case callv=>cases hs
 case lookup kk z g ok m k=>
  simp only [step] at hs;split at hs
  ·split at hs
   ·exact d0
   simp_all
  ·exact d0
  simp_all
 case load n b x=>
  simp only [step] at hs
  cases h1:Q2q Gl H (Q9 tm x) with
  | none=>simp_all
  | some cs=>
   simp only [h1,Lf] at hs
   cases h2:Q71 n cs with
   | none=>simp_all
   | some ds=>
    simp only [h2,Lf] at hs;cases h3:sOf b ds<;>grind
 case field x off n agg=>
  simp only [step] at hs
  cases h1:(Q9 tm x).aggs? with
  | none=>simp_all
  | some cs=>
   simp only [h1] at hs
   cases h2:Q71 n (cs.drop off) with
   | none=>simp_all
   | some ds=>
    simp only [h2,Lf] at hs;cases h3:sOf agg ds<;>grind
 case strOf x=>
  simp only [step] at hs;split at hs
  ·rename_i es a off len _;split at hs
   ·rename_i cs _
    cases h2:Q71 len (cs.drop off) with
    | none=>simp_all
    | some ds=>
     simp only [h2,Lf] at hs;cases h3:Qvm ds<;>grind
   simp_all
  ·grind
  simp_all
 case build z ps=>
  simp only [step] at hs;cases h1:Qbe tm (z.map .p) ps<;>grind
 case ari op x y=>
  grind [step,Option.bind_eq_some_iff]
 case cmp op x y=>
  simp only [step] at hs;cases h1:Zar op (Q9 tm x) (Q9 tm y)<;>grind
 case eqAgg neg kinds x y=>
  simp only [step] at hs;split at hs
  ·rename_i cs ds _ _;cases h1:V6 kinds cs ds<;>grind
  simp_all
 all_goals
  simp only [step] at hs
  first
   | exact pr hs
   | (split at hs<;>first | exact pr hs | (cases hs;done) | exact bnd hs | exact bnd (f:=fun b=>b) hs | (split at hs<;>first | exact pr hs | (cases hs;done) | exact bnd hs | (split at hs<;>first | exact pr hs | (cases hs;done))))


end
end
end Go.Av
namespace Go.Av
noncomputable section
set_option maxHeartbeats 4000000
section
variable {P:Program} {Gl:Nat->Option (List PV)}

theorem Qus {a b:List Nat} {x:Nat} (ha:x∈a) (hb:x∈b):meets a b=true:=by
 unfold meets;rw [List.any_eq_true];refine ⟨x,ha,?_⟩<;>simp_all
def Qfx {a b:Fp} (h:Q6l a b=true) {x:Nat} (h1:(x∈b.affs∧(x∈a.reads∨x∈a.affs))∨(x∈a.affs∧x∈b.reads)):a.bef.testBit b.i=true:=by
 grind [Q8l,Qus]
def Qz2 (a:Fp) (i b:Nat):Q6l a ⟨i,[],[],b⟩=true:=iP
def Qvd (a:Fp) (i b:Nat):Q6l ⟨i,[],[],b⟩ a=true:=iP
theorem Qsw:∀ (l:List Fp) (b:Fp),b∈l->b∈Qpw l∨(b.reads = []∧b.affs = [])
 | a::r,b,h=>by
  rcases Lx.1 h with rfl | h
  ·grind [Qpw]
  unfold Qpw
  rcases Qsw r b h with h | h<;>grind
theorem Qme {a b:Fp} (h:b.reads = []∧b.affs = []):Q6l a b=true:=iP
def Qmx {a b:Fp} (h:a.reads = []∧a.affs = []):Q6l a b=true:=by
 simp_all [meets,Q8l]
def Qig:∀ (l:List Fp),Qt9 (Qpw l)=true->Qt9 l=true
 | [],_=>rfl
 | a::r,h=>by
  by_cases hp:a.reads = []∧a.affs = []
  ·have e:Qpw (a::r)=Qpw r:=by simp_all [Qpw]
   rw [e] at h;simp only [Qt9,Le,Ln];exact ⟨fun b _=>Qmx hp,Qig r h⟩
  have e:Qpw (a::r)=a::Qpw r:=by grind [Qpw]
  rw [e] at h;simp only [Qt9,Le,Ln] at h ⊢;refine ⟨fun b hb=>?_,Qig r h.2⟩<;>grind [Qsw,Qme]
theorem Qif {a:Fp} {r:List Fp} (h:Qt9 (a::r)=true):(∀ b∈r,Q6l a b=true)∧Qt9 r=true:=by
 simp_all [Qt9]

def Z2m {tm:List AV} {t:Nat} {x:AV} (h:tm.getD t .any=x) (hx:x ≠ .any):tm.set t x=tm:=by
 apply Lw 
 grind

def Qoc {α:Type} (E:Env α) (dc:Nat->List AV->List AObj->(AV->List AObj->List Nat->List Nat->α)->α) (tm:List AV) (hp:List AObj) (k:AV->List AObj->List Nat->List Nat->α) (c:COp) (hc:c.isCall=false) :
  Quh E dc tm hp k c=Q11 E tm hp (fun v hp'=>k v hp' (Q88 tm hp c).1 (Q88 tm hp c).2) c:=by
 cases c<;>first | (simp [COp.isCall] at hc;done) | simp only [Quh,Qmo,Q88,fpN]

structure Path (P:Program) (Gl:Nat->Option (List PV)) (cs:List COper) (tms:Nat->List AV) (Hs:Nat->List AObj) (vs:Nat->AV) (es:Nat->Chg) (Rs As:Nat->List Nat):Prop where
 did:∀ i c,cs[i]? = some c->Did P Gl c (tms i) (Hs i) (vs i) (es i) (Rs i) (As i)
 tm:∀ i c,cs[i]? = some c->tms (i+1)=Qkq (tms i) c.dst (vs i)
 hp:∀ i c,cs[i]? = some c->Hs (i+1)=(es i).app (Hs i) (Hs i).length

def Qp2 {α:Type} (x : α) (f:Nat->α):Nat->α
 | 0=>x
 | n+1=>f n

def Qmz (P:Program) (Gl:Nat->Option (List PV)) (k:List AV->List AObj->Prop) (cs:List COper) (tm:List AV) (H:List AObj) (j:Nat) (acc:List Fp):Prop:=
 Qt9 acc=true∧∃ tms Hs vs es Rs As,tms 0=tm∧Hs 0=H∧k (tms cs.length) (Hs cs.length)∧Path P Gl cs tms Hs vs es Rs As ∧
   (∀ (i:Nat) c,cs[i]? = some c->(∀ b∈acc,Q6l ⟨j+i,Rs i,As i,c.bef⟩ b=true)∧∀ (i':Nat) c',i'<i->cs[i']? = some c'->Q6l ⟨j+i,Rs i,As i,c.bef⟩ ⟨j+i',Rs i',As i',c'.bef⟩=true)
def Qbi {k:List AV->List AObj->Prop}:∀ (cs:List COper) (tm:List AV) (H:List AObj) (j:Nat) (acc:List Fp),Q0f (EP P Gl) (Wz P Gl) k cs tm H j acc ->
  Qmz P Gl k cs tm H j acc
 | [],tm,H,j,acc,h=>by
  simp only [Qk0,Jt] at h
  by_cases hb:Qt9 (Qpw acc)=true
  ·rw [Af hb] at h;exact ⟨Qig acc hb,fun _=>tm,fun _=>H,fun _ => .any,fun _=>⟨[],[]⟩,fun _ => [],fun _ => [],rfl,rfl,h,⟨fun i c h=> iZ,fun i c h=> iZ,fun i c h=> iZ⟩,fun i c h=> iZ⟩
  rw [Ae hb] at h;exact gS
 | c::cs,tm,H,j,acc,h=>by
  have glue:∀ (v:AV) (e:Chg) (R A:List Nat) (acc':List Fp),Did P Gl c tm H v e R A->Q0f (EP P Gl) (Wz P Gl) k cs (Qkq tm c.dst v) (e.app H H.length) (j+1) acc' ->
    (Qt9 acc'=true->Qt9 acc=true∧(∀ b∈acc,Q6l ⟨j,R,A,c.bef⟩ b=true))->(∀ b∈acc,b∈acc')->(⟨j,R,A,c.bef⟩∈acc'∨(R = []∧A = [])) ->
    Qmz P Gl k (c::cs) tm H j acc:=by
   intro v e R A acc' hd hev hb hsub hmem;obtain ⟨q1,tms,Hs,vs,es,Rs,As,q2,q3,q4,q5,q6⟩:=Qbi cs _ _ _ _ hev;obtain ⟨b1,b2⟩:=hb q1;refine ⟨b1,Qp2 tm tms,Qp2 H Hs,Qp2 v vs,Qp2 e es,Qp2 R Rs,Qp2 A As,rfl,rfl,q4,⟨?_,?_,?_⟩,?_⟩
   ·intro i c1 hc
    cases i with
    | zero=>simp at hc;subst hc;exact hd
    | succ i=>exact q5.did i c1 (by simp_all)
   ·intro i c1 hc
    cases i with
    | zero=>simp at hc;subst hc;exact q2
    | succ i=>exact q5.tm i c1 (by simp_all)
   ·intro i c1 hc
    cases i with
    | zero=>simp at hc;subst hc;exact q3
    | succ i=>exact q5.hp i c1 (by simpa using hc)
   intro i c1 hc
   cases i with
   | zero=>simp at hc;subst hc;exact ⟨b2,fun i' c' h=>by omega⟩
   | succ i=>
    obtain ⟨k1,k2⟩:=q6 i c1 (by simpa using hc)
    have ej:j+(i+1)=j+1+i:=by omega
    rw [ej];refine ⟨fun b hb'=>k1 b (hsub b hb'),fun i' c' hi' hc'=>?_⟩
    cases i' with
    | zero=>
     simp at hc';subst hc'
     rcases hmem with hm | ⟨rfl,rfl⟩
     ·exact k1 _ hm
     exact Qz2 _ _ _
    | succ i'=>
     have:=k2 i' c' (by omega) (by simp_all)
     have ej':j+(i'+1)=j+1+i':=by omega
     rw [ej'];exact this
  have doRun:Q9j c tm->Quh (EP P Gl) (Wz P Gl) tm H (fun v hp rd af=>put tm c.dst v fun tm=>Q0f (EP P Gl) (Wz P Gl) k cs tm hp (j+1) (⟨j,rd,af,c.bef⟩::acc)) c.op->Qmz P Gl k (c::cs) tm H j acc:=by
   intro hw hr
   by_cases hc:c.op.isCall=false
   ·have hr':=hr;rw [Qoc _ _ _ _ _ _ hc] at hr';rw [Qgy _ _ _ _ _ hc] at hr';rw [show (EP P Gl).glob=Gl from rfl] at hr'
    cases hs:step Gl tm H H.length c.op with
    | none=>rw [hs] at hr';exact hr'.elim
    | some ve=>
     obtain ⟨v,e⟩:=ve;rw [hs] at hr';simp only [Q0y] at hr';refine glue v e.chg _ _ _ (.run v e hw hc hs) (by rw [Eff.chg_app];exact hr') (fun hb=>?_) (fun b hb => .tail _ hb) (.inl (.head _))
     grind [Qif]
   have hc':c.op.isCall=true:=by simp_all
   have key:(∃ (R:List Nat) (sets:List (Nat×AObj)) (r:AV),(∀ s∈sets,s.1<H.length) ∧
     (∀ tm' H2,(∀ t∈c.op.slots,tm'.getD t .any=tm.getD t .any)->(∀ a∈R,∀ o,H[a]? = some o->H2[a]? = some o)->Q11 (EP P Gl) tm' H2 (fun v' H'=>v'=r∧H'=Q5l sets H2) c.op) ∧
     Q0f (EP P Gl) (Wz P Gl) k cs (Qkq tm c.dst r) (Q5l sets H) (j+1) (⟨j,R,sets.map (·.1),c.bef⟩::acc)) ∨
    (∃ (R:List Nat) (obs:List AObj) (r:AV) (A:List Nat),(∀ x,H.length≤x->x<H.length+obs.length->x∈A) ∧
     (∀ tm' H2,(∀ t∈c.op.slots,tm'.getD t .any=tm.getD t .any)->(∀ a∈R,∀ o,H[a]? = some o->H2[a]? = some o)->Qdp (fun f args=>Qs0 P Gl f args H2 H.length obs.length (fun v' H'=>v'=r∧H'=Qh1 H2 H.length obs)) tm' c.op) ∧
     Q0f (EP P Gl) (Wz P Gl) k cs (Qkq tm c.dst r) (Qh1 H H.length obs) (j+1) (⟨j,R,A,c.bef⟩::acc)):=by
    revert hr hc';generalize c.op=op;intro hr hc'
    cases op<;>try (simp [COp.isCall] at hc';done)
    case call f args=>
     simp only [Quh,Q1x] at hr
     rcases hr with ⟨R,sets,r,h1,h2,h3⟩ | ⟨R,obs,r,A,h1,h2,h3⟩
     ·rw [Q0y] at h3;refine .inl ⟨R,sets,r,h1,fun tm' H2 ht hR=>?_,h3⟩;simp only [Q11,Qlz,Q1x];exact gB
     rw [Q0y] at h3;refine .inr ⟨R,obs,r,A,h1,fun tm' H2 ht hR=>?_,h3⟩;simp only [Qdp];exact gB
    case callv f args=>
     simp only [Quh,Q1x,Zg,Q40,Jr] at hr
     have e1:∀ tm':List AV,(∀ t∈(COp.callv f args).slots,tm'.getD t .any=tm.getD t .any)->Q9 tm' f=Q9 tm f∧args.map (Q9 tm')=args.map (Q9 tm):=fun tm' ht=>
      ⟨Q7d fun t h=>ht t fS,Q87 fun t h=>ht t fS⟩
     have hnd:(∃ tbl i,f = .d tbl i)->False:=by
      rintro ⟨tbl,i,rfl⟩
      exact hr
     have hv':∀ tm':List AV,(∀ t∈(COp.callv f args).slots,tm'.getD t .any=tm.getD t .any)->∀ tbl i,f ≠ .d tbl i:=fun _ _ tbl i e=>hnd ⟨tbl,i,e⟩;split at hr
     ·exact aW
     ·exact aW
     exact hr.elim
   rcases key with ⟨R,sets,r,h1,h2,h3⟩ | ⟨R,obs,r,A,h1,h2,h3⟩
   ·refine glue r ⟨sets,[]⟩ R (sets.map (·.1)) _ (.call r sets R hw hc' h1 h2) h3 (fun hb=>?_) (fun b hb => .tail _ hb) (.inl (.head _))
    grind [Qif]
   refine glue r ⟨[],obs⟩ R A _ (.callN r obs R A h1 hw hc' h2) h3 (fun hb=>?_) (fun b hb => .tail _ hb) (.inl (.head _))
   grind [Qif]
  have doSkip:Did P Gl c tm H Uw ⟨[],[]⟩ [] []->(put tm c.dst Uw fun tm=>Q0f (EP P Gl) (Wz P Gl) k cs tm H (j+1) acc)->Qmz P Gl k (c::cs) tm H j acc:=fun hd hev=>by
   rw [Q0y] at hev;exact glue Uw ⟨[],[]⟩ [] [] acc hd hev (fun hb=>⟨hb,fun b _=>Qvd _ _ _⟩) (fun b hb=>hb) (.inr ⟨rfl,rfl⟩)
  simp only [Qhn] at h
  cases hg:c.guard with
  | none=>simp_all [Q9j]
  | some tw=>
   obtain ⟨t,want⟩:=tw;rw [hg] at h;simp only [Q41] at h;split at h
   ·rename_i b hv;simp only [Qa7] at h;rw [Q4i] at h;have hset:∀ b',b=b'->tm.set t (.p (.bool b'))=tm:=fun b' e=>Z2m (by simp_all) (by simp);cases b
    ·simp only [Mg,Al] at h;rw [hset false rfl,Q4i] at h;cases want
     ·simp_all [Q9j]
     simp only [Ak] at h;exact doSkip (.skip t true false hg hv (by simp)) h
    simp only [Ak] at h;rw [hset true rfl,Q4i] at h;cases want
    ·simp only [Mg,Al] at h;exact doSkip (.skip t false true hg hv (by simp)) h
    simp_all [Q9j]
   ·rename_i hv;exact doSkip (.skipU t want hg hv) h
   exact gS
end
end
end Go.Av
namespace Go.Av
noncomputable section
set_option maxHeartbeats 4000000
section
variable {P:Program} {Gl:Nat->Option (List PV)}

def Q51 {ops:Array Oper}:∀ (os:List Oper) (cs:List COper),Q4m P ops os cs=true->os.length=cs.length∧∀ (i:Nat) o c,os[i]? = some o->cs[i]? = some c ->
  o.dst=c.dst∧Qa4 P o.op c.op=true∧Wd ops o.guard c.guard=true
 | [],[],_=>⟨rfl,fun i o c h=>by simp⟩
 | o::os,c::cs,h=>by
  simp only [Q4m,Le,Aj] at h;obtain ⟨⟨⟨h1,h2⟩,h3⟩,h4⟩:=h;obtain ⟨r1,r2⟩:=Q51 os cs h4<;>grind
 | [],_::_,h=>by simp [Q4m] at h
 | _::_,[],h=>by simp [Q4m] at h

theorem Q91 {all:List COper}:∀ (os:List Oper) (cs:List COper) (j:Nat),Z2c all j os cs=true->∀ (i:Nat) o c,os[i]? = some o->cs[i]? = some c ->
  (∀ e∈o.after,Region.binds .any e=true->e.on<j+i)∧Q9e all o=c.bef
 | [],[],_,_=>fun i o c h=>by simp
 | o::os,c::cs,j,h=>by
  simp only [Z2c,Le,Aj] at h;obtain ⟨⟨h1,h2⟩,h3⟩:=h;intro i o' c' ho hc
  cases i with
  | zero=>
   grind
  | succ i=>
   have:=Q91 os cs (j+1) h3 i o' c' (by simp_all) (by simp_all)
   grind
 | [],_::_,_,h=>by simp
 | _::_,[],_,h=>by simp

def Ql2 {all:List COper} {i t b:Nat}:∀ (cs:List COper) (j:Nat),Z1x all i t b j cs=true->∀ (x:Nat) d,cs[x]? = some d->i≠j+x->d.dst≠some t∧(t∈d.slots->d.bef.testBit i=true∨b.testBit (j+x)=true)
 | [],_,_=>fun x d h=>by simp_all
 | c::cs,j,h=>by
  simp only [Z1x,Le] at h;obtain ⟨h1,h2⟩:=h;intro x d hx hne
  cases x with
  | zero=>
   grind
  | succ x=>
   have:=Ql2 cs (j+1) h2 x d (by simp_all) (by omega)
   grind
def Q8o {all:List COper}:∀ (cs:List COper) (i:Nat),Z2t all i cs=true->∀ (x:Nat) c t,cs[x]? = some c->c.dst=some t->∀ (y:Nat) d,all[y]? = some d->i+x≠y ->
  d.dst≠some t∧(t∈d.slots->d.bef.testBit (i+x)=true∨c.bef.testBit y=true)
 | [],_,_=>fun x c t h=>by simp_all
 | c::cs,i,h=>by
  simp only [Z2t,Le] at h;obtain ⟨h1,h2⟩:=h;intro x c' t hx hd y d hy hne
  cases x with
  | zero=>
   simp at hx;subst hx;rw [hd] at h1;have:=Ql2 all 0 h1 y d hy (by omega)
   simp_all
  | succ x=>
   have e:i+(x+1)=i+1+x:=by omega
   rw [e] at hne ⊢;exact Q8o cs (i+1) h2 x c' t (by simp_all) hd y d hy hne

def Qdq {all:List COper} (x:Nat):∀ (l:List Edge) (b:Nat),(l.foldl (fun b e=>if Region.binds .any e then (match all[e.on]? with
 | some d=>b ||| (d.bef ||| 1 <<< e.on)
 | none=>b) else b) b).testBit x=true->b.testBit x=true∨∃ e∈l,Region.binds .any e=true∧∃ d,all[e.on]? = some d∧(d.bef.testBit x=true∨x=e.on)
 | [],b,h => .inl h
 | e::l,b,h=>by
  simp only [List.foldl_cons] at h
  rcases Qdq x l _ h with h1 | ⟨e',he',h2⟩<;>grind [Nat.one_shiftLeft]

structure Plan (P:Program) (Gl:Nat->Option (List PV)) (ops:Array Oper) (cs:List COper) (tms:Nat->List AV) (Hs:Nat->List AObj) (vs:Nat->AV) (es:Nat->Chg) (Rs As:Nat->List Nat):Prop extends Path P Gl cs tms Hs vs es Rs As where
 size:cs.length≤ops.size
 apart:∀ (i i':Nat) c c',i'<i->cs[i]? = some c->cs[i']? = some c'->Q6l ⟨i,Rs i,As i,c.bef⟩ ⟨i',Rs i',As i',c'.bef⟩=true
 op:∀ (i:Nat) o c,ops[i]? = some o->cs[i]? = some c->o.dst=c.dst∧Qa4 P o.op c.op=true∧Wd ops o.guard c.guard=true
 edge:∀ (i:Nat) o c,ops[i]? = some o->cs[i]? = some c->(∀ e∈o.after,Region.binds .any e=true->e.on<i)∧Q9e cs o=c.bef
 slot:∀ (i:Nat) c t,cs[i]? = some c->c.dst=some t->∀ (j:Nat) d,cs[j]? = some d->i≠j->d.dst≠some t∧(t∈d.slots->d.bef.testBit i=true∨c.bef.testBit j=true)

variable {ops:Array Oper} {cs:List COper} {tms:Nat->List AV} {Hs:Nat->List AObj} {vs:Nat->AV} {es:Nat->Chg} {Rs As:Nat->List Nat}

def Plan.bef_closed (p:Plan P Gl ops cs tms Hs vs es Rs As) {L:Nat->Prop} (hL:∀ (j:Nat) c b,cs[j]? = some c->L j->c.bef.testBit b=true->L b)
  {j:Nat} {o:Oper} {c:COper} (ho:ops[j]? = some o) (hc:cs[j]? = some c) (he:∀ e∈o.after,Region.binds .any e=true->L e.on) {b:Nat} (hb:c.bef.testBit b=true):L b:=by
 rw [← (p.edge j o c ho hc).2] at hb
 rcases Qdq b o.after.toList 0 hb with h | ⟨e,h1,h2,d,h3,h4⟩
 ·simp_all
 grind
def Plan.get (p:Plan P Gl ops cs tms Hs vs es Rs As) {j:Nat} {c:COper} (hc:cs[j]? = some c):∃ o,ops[j]? = some o:=by
 have hlt:=(Ld.1 hc).1;have hlt:=Lu hlt p.size
 simp_all
def Plan.bef_lt (p:Plan P Gl ops cs tms Hs vs es Rs As):∀ (j:Nat) (c:COper) (b:Nat),cs[j]? = some c->c.bef.testBit b=true->b<j:=by
 intro j
 induction j using Nat.strongRecOn with
 | _ j ih=>
  intro c b hc hb;obtain ⟨o,ho⟩:=p.get hc;rw [← (p.edge j o c ho hc).2] at hb
  rcases Qdq b o.after.toList 0 hb with h | ⟨e,h1,h2,d,h3,h4⟩
  ·simp_all
  ·have hlt:=(p.edge j o c ho hc).1 e (by simp_all) h2
   grind

def Did.aff {c:COper} {tm:List AV} {H:List AObj} {v:AV} {e:Chg} {R A:List Nat} (d:Did P Gl c tm H v e R A):(∀ s∈e.sets,s.1<H.length)∧∀ x,e.aff H.length x->x∈A:=by
 cases d with
 | skip t want b hg hv hb=>simp_all [Chg.aff]
 | skipU t want hg hv=>simp_all [Chg.aff]
 | run v e hw hc hs=>
  obtain ⟨h1,h2⟩:=Z0t hs;refine ⟨fun s h=>(h1 s (by simp_all [Eff.chg])).1,fun x h=>?_⟩
  rcases h with h | ⟨ha,hb⟩
  ·obtain ⟨s,hs1,hs2⟩:=Md.1 h<;>grind [Eff.chg]
  grind [Eff.chg]
 | call v sets R hw hc hs h=>
  refine ⟨hs,fun x hx=>?_⟩
  rcases hx with hx | ⟨hx,hy⟩<;>grind
 | callN v obs R A hA hw hc h=>
  refine ⟨fun s h=>by simp_all,fun x hx=>?_⟩
  rcases hx with hx | ⟨hx,hy⟩<;>simp_all

def Aff (Hs:Nat->List AObj) (es:Nat->Chg) (i x:Nat):Prop:=(es i).aff (Hs i).length x

def Plan.conflict (p:Plan P Gl ops cs tms Hs vs es Rs As) {i j x:Nat} {c d:COper} (hi:cs[i]? = some c) (hj:cs[j]? = some d) (ha:Aff Hs es i x) (hb:x∈Rs j∨Aff Hs es j x) :
  (i<j->d.bef.testBit i=true)∧(j<i->c.bef.testBit j=true):=by
 have h1:=(p.did i c hi).aff.2 x ha;have h2:x∈Rs j∨x∈As j:=hb.imp id ((p.did j d hj).aff.2 x);refine ⟨fun hlt=>?_,fun hlt=>?_⟩
 ·exact Qfx (p.apart j i d c hlt hj hi) (.inl ⟨h1,h2⟩)
 refine Qfx (x:=x) (p.apart i j c d hlt hi hj) ?_<;>grind
def Plan.lenS (p:Plan P Gl ops cs tms Hs vs es Rs As) {i:Nat} (hi:i<cs.length):(Hs i).length≤(Hs (i+1)).length:=by
 rw [p.hp i _ (La hi)];simp_all [Chg.len]
def Plan.len (p:Plan P Gl ops cs tms Hs vs es Rs As) {i:Nat}:∀ (k:Nat),i+k≤cs.length->(Hs i).length≤(Hs (i+k)).length
 | 0,_=>Lh _
 | k+1,h=>Ma (p.len k (by omega)) (p.lenS (i:=i+k) (by omega))
def Plan.len' (p:Plan P Gl ops cs tms Hs vs es Rs As) {i j:Nat} (h:i≤j) (hj:j≤cs.length):(Hs i).length≤(Hs j).length:=by
 have:=p.len (i:=i) (j - i) (by omega)
 simp_all
def Plan.aff_lt (p:Plan P Gl ops cs tms Hs vs es Rs As) {i x:Nat} (hi:i<cs.length) (ha:Aff Hs es i x):x<(Hs (i+1)).length:=by
 have hc:=La hi;rw [p.hp i _ hc];exact Chg.aff_lt (p.did i _ hc).aff.1 ha
def Plan.same (p:Plan P Gl ops cs tms Hs vs es Rs As) {i x N:Nat} (hN:(Hs cs.length).length≤N):∀ (k:Nat),i+k≤cs.length->(∀ j,i≤j->j<i+k->¬ Aff Hs es j x)->(pad N (Hs (i+k)))[x]? = (pad N (Hs i))[x]?
 | 0,_,_=>rfl
 | k+1,h,hn=>by
  rw [← p.same hN k (by omega) (fun j h1 h2=>hn j h1 (by omega))];have hc:=La (show i+k<cs.length by omega);have:=p.len' (show i+k+1≤cs.length by omega) (Lh _);rw [show i+(k+1)=i+k+1 by omega];rw [p.hp _ _ hc] at this ⊢;exact Chg.pad_ne (by omega) (hn (i+k) (by omega) (by omega))
theorem Qgf (tm:List AV) (d:Option Nat) (v:AV):(Qkq tm d v).length=tm.length:=by cases d<;>simp [Qkq]
def Plan.tlen (p:Plan P Gl ops cs tms Hs vs es Rs As):∀ (k:Nat),k≤cs.length->(tms k).length=(tms 0).length
 | 0,_=>rfl
 | k+1,h=>by rw [p.tm k _ (La (show k<cs.length by omega)),Qgf];exact p.tlen k (by omega)
def Plan.tsame (p:Plan P Gl ops cs tms Hs vs es Rs As) {i t:Nat}:∀ (k:Nat),i+k≤cs.length->(∀ j c,i≤j->j<i+k->cs[j]? = some c->c.dst≠some t)->(tms (i+k))[t]? = (tms i)[t]?
 | 0,_,_=>rfl
 | k+1,h,hn=>by
  have hc:=La (show i+k<cs.length by omega);rw [← p.tsame k (by omega) (fun j c h1 h2=>hn j c h1 (by omega)),show i+(k+1)=i+k+1 by omega,p.tm _ _ hc];have:=hn (i+k) _ (by omega) (by omega) hc;unfold Qkq
  grind

structure InvD (cs:List COper) (tms:Nat->List AV) (Hs:Nat->List AObj) (es:Nat->Chg) (θ0:Th) (w0:World) (L:Nat->Prop) (θ:Th) (tm:List AV) (H:List AObj) (a:Act) (w:World):Prop where
 hT:TmOk θ (Qu θ H) w tm a
 hH:Hp θ H w
 evo:Evo θ0 (pad (Hs cs.length).length (Hs 0)) w0 θ H w
 old:∀ b,b<(Hs 0).length->θ b = θ0 b
 len:H.length=(Hs cs.length).length
 tl:tm.length=(tms 0).length
 clo:∀ (j:Nat) c b,cs[j]? = some c->L j->c.bef.testBit b=true->L b
 sl:∀ (t j:Nat),j≤cs.length->(∀ (i:Nat) c,cs[i]? = some c->c.dst=some t->(i<j↔L i))->tm[t]? = (tms j)[t]?
 hp:∀ (x j:Nat),j≤cs.length->(∀ (i:Nat),i<cs.length->Aff Hs es i x->(i<j↔L i))->H[x]? = (pad (Hs cs.length).length (Hs j))[x]?
 un:∀ (j:Nat),j<cs.length->¬ L j->∀ i,i<(es j).new.length->θ ((Hs j).length+i)=none
end
end
end Go.Av
namespace Go.Av
noncomputable section
set_option maxHeartbeats 4000000
section
variable {P:Program} {Gl:Nat->Option (List PV)}
variable {ops:Array Oper} {cs:List COper} {tms:Nat->List AV} {Hs:Nat->List AObj} {vs:Nat->AV} {es:Nat->Chg} {Rs As:Nat->List Nat}

theorem Qz1 {H:List AObj} {na na' esz bytes:Nat} {vs vx v:AV} {e:Eff} (hs:Qjf H na esz bytes vs vx=some (v,e)) (he:e.new=none):Qjf H na' esz bytes vs vx=some (v,e):=by
 have add:∀ new n,Qkm H na esz bytes vs new n=some (v,e)->Qkm H na' esz bytes vs new n=some (v,e):=by
  intro new n h;unfold Qkm at h ⊢;split
  ·simp_all
  rename_i hn;rw [Ae hn] at h;split at h<;>grind
 unfold Qjf at hs ⊢;split at hs<;>grind [Option.bind_eq_some_iff]

def Z5r {tm:List AV} {H:List AObj} {na na':Nat} {c:COp} {v:AV} {e:Eff} (hs:step Gl tm H na c=some (v,e)) (he:e.new=none):step Gl tm H na' c=some (v,e):=by
 cases c<;>try exact hs
 case alloc z=>cases hs;simp_all
 case makeMap=>cases hs;simp_all
 case rangeS x=>
  grind [step]
 case box x=>
  simp only [step] at hs;cases hc:(Q9 tm x).cells? <;> grind
 case buildSlice z len esz ps=>
  simp only [step] at hs;cases hc:Qbe tm ((List.replicate len z).flatten.map .p) ps<;>grind
 case bytesOf x=>
  grind [step]
 case makeSlice z b l c'=>
  grind [step]
 case append esz bytes s x=>
  grind [step,Qz1]
 case appendT esz bytes s x=>
  simp only [step] at hs ⊢;generalize Q9 tm s=vs at hs ⊢;generalize Q9 tm x=vx at hs ⊢;unfold Qqw at hs ⊢;split at hs
  ·rename_i es a off len;split at hs
   ·rename_i cs ha;split at hs
    ·rename_i hle
     cases hr:Qjf (H.set a (.cells (cs.take (off+len * esz)))) na esz bytes (.slice es a off len) vx with
     | none=>simp_all
     | some r=>
      obtain ⟨v',e'⟩:=r;simp only [hr,Mq,Lb,Lg] at hs;obtain ⟨rfl,rfl⟩:=hs;have:=Qz1 (na':=na') hr he
      simp_all
    simp_all
   omega
  grind [Qz1]

def Qid {θ:Th} {S:Nat->Prop} {w:World} {tm:List AV} {a:Act} (hT:TmOk θ S w tm a) {o:Oper} {c:COper} (hk:Wd ops o.guard c.guard=true) {t:Nat} {want b:Bool}
  (hg:c.guard=some (t,want)) (hv:tm.getD t .any = .p (.bool b)):Region.wanted o (yielded ops a.tmps)=(b == want):=by
 cases hgo:o.guard with
 | none=>simp_all [Wd]
 | some jb=>
  obtain ⟨j,b'⟩:=jb;rw [hgo,hg] at hk;simp only [Wd,Le,Aj] at hk;obtain ⟨rfl,hj⟩:=hk;obtain ⟨cv,e1,e2,e3⟩:=Q63 hT hv (by simp);have:=Q8h e3
  simp_all [yielded,Region.wanted]
def Qoo {θ:Th} {S:Nat->Prop} {w:World} {tm:List AV} {a:Act} (hT:TmOk θ S w tm a) {o:Oper} {c:COper} (hk:Wd ops o.guard c.guard=true) {t:Nat} {want:Bool}
  (hg:c.guard=some (t,want)) (hv:tm.getD t .any = .p (.tuple [])):Region.wanted o (yielded ops a.tmps)=false:=by
 cases hgo:o.guard with
 | none=>simp_all [Wd]
 | some jb=>
  obtain ⟨j,b'⟩:=jb;rw [hgo,hg] at hk;simp only [Wd,Le,Aj] at hk;obtain ⟨rfl,hj⟩:=hk;obtain ⟨cv,e1,e2,e3⟩:=Q63 hT hv (by simp)
  have hcv:cv = .tuple #[]:=dx
  simp_all [yielded,Region.wanted]

def Plan.ord (p:Plan P Gl ops cs tms Hs vs es Rs As) {L:Nat->Prop} (clo:∀ (j:Nat) c b,cs[j]? = some c->L j->c.bef.testBit b=true->L b) {j:Nat} {c:COper} (hc:cs[j]? = some c)
  (hn:¬ L j) (hb:∀ b,c.bef.testBit b=true->L b) {x:Nat} (hx:x∈Rs j∨Aff Hs es j x):∀ (i:Nat),i<cs.length->Aff Hs es i x->(i<j↔L i):=by
 intro i hi ha;have hd:=La hi;obtain ⟨c1,c2⟩:=p.conflict hd hc ha hx<;>grind

def InvD.after (p:Plan P Gl ops cs tms Hs vs es Rs As) {θ0:Th} {w0:World} {L:Nat->Prop} {θ:Th} {tm:List AV} {H:List AObj} {a:Act} {w:World} (inv:InvD cs tms Hs es θ0 w0 L θ tm H a w)
  {j:Nat} {c:COper} (hc:cs[j]? = some c) (hn:¬ L j) (hb:∀ b,c.bef.testBit b=true->L b) {θ':Th} {w':World} {cv:Value}
  (h1:RelV θ' (Qu θ' ((es j).app H (Hs j).length)) w' (vs j) cv) (h2:Hp θ' ((es j).app H (Hs j).length) w') (h3:Evo θ H w θ' ((es j).app H (Hs j).length) w')
  (h4:∀ b,b<H.length->¬ ((Hs j).length≤b∧b<(Hs j).length+(es j).new.length)->θ' b = θ b) :
  InvD cs tms Hs es θ0 w0 (fun i=>L i∨i=j) θ' (Qkq tm c.dst (vs j)) ((es j).app H (Hs j).length) (a.put c.dst cv) w':=by
 have hjl:j<cs.length:=(Ld.1 hc).1;have hsets:=(p.did j c hc).aff.1;have hN1:(Hs (j+1)).length≤(Hs cs.length).length:=p.len' (by omega) (Lh _);have hN1':=hN1;rw [p.hp j c hc] at hN1';have hN0:(Hs j).length≤(Hs cs.length).length:=p.len' (by omega) (Lh _)
 have newlt:∀ i,i<cs.length->(Hs i).length+(es i).new.length≤(Hs (i+1)).length:=fun i hi=>by
  by_cases h:(es i).new.length=0
  ·have:=p.lenS hi;omega
  have:=p.aff_lt hi (x:=(Hs i).length+(es i).new.length - 1) (.inr ⟨by omega,by omega⟩);omega
 refine ⟨(inv.hT.mono h3).put c.dst h1,h2,inv.evo.trans h3,?_,?_,?_,?_,?_,?_,?_⟩
 ·intro b hb';have h0:(Hs 0).length≤(Hs j).length:=p.len' (Lk _) (by omega);rw [h4 b i8 (by omega)];exact inv.old b hb'
 ·have hle:(es j).app H (Hs j).length=(es j).app H (Hs j).length:=rfl;unfold Chg.app;have:=newlt j hjl;rw [Qpl _ _ _ (by rw [Q3n,inv.len];omega),Q3n];exact inv.len
 ·rw [Qgf];exact inv.tl
 ·intro j' c' b hc' hL hbit
  rcases hL with hL | rfl
  ·exact .inl (inv.clo j' c' b hc' hL hbit)
  simp_all
 ·intro t j' hj' hcond
  by_cases hd:c.dst=some t
  ·have hlt:j<j':=(hcond j c hc hd).2 (.inr rfl);have e1:=p.tsame (i:=j+1) (t:=t) (j' - (j+1)) (by omega) (fun i d h1 h2 hd'=>(p.slot j c t hc hd i d hd' (by omega)).1);rw [show j+1+(j' - (j+1))=j' by omega] at e1;rw [e1,p.tm j c hc];unfold Qkq;rw [hd];simp only [];rw [List.getElem?_set,List.getElem?_set,Af rfl,Af rfl]
   have:tm.length=(tms j).length:=by rw [inv.tl,p.tlen j (by omega)]
   simp_all
  have e1:(Qkq tm c.dst (vs j))[t]? = tm[t]? := by
   unfold Qkq;split
   ·simp_all
   rfl
  rw [e1];refine inv.sl t j' hj' (fun i d hd' hdt=>?_)<;>grind
 ·intro x j' hj' hcond
  by_cases ha:Aff Hs es j x
  ·have hlt:j<j':=(hcond j hjl ha).2 (.inr rfl)
   have e1:=p.same (i:=j+1) (x:=x) (N:=(Hs cs.length).length) (Lh _) (j' - (j+1)) (by omega) (fun i h1 h2 hai=>by
    have hil:i<cs.length:=by omega
    have hL:=(hcond i hil hai).1 (by omega);have hL':L i:=hL.resolve_right (by omega);have hd:=La hil;have hbit:=(p.conflict hc hd ha (.inr hai)).1 (by omega)
    exact hn (inv.clo i _ j hd hL' hbit))
   rw [show j+1+(j' - (j+1))=j' by omega] at e1;rw [e1,p.hp j c hc];exact Chg.app_aff hN1' hsets inv.len (inv.hp x j (by omega) (p.ord inv.clo hc hn hb (.inr ha))) ha
  rw [Chg.app_ne i8 ha];refine inv.hp x j' hj' (fun i hi hai=>?_)<;>grind
 intro j2 hj2 hn2 i hi;have hl2:=newlt j2 hj2;have hN2:(Hs (j2+1)).length≤(Hs cs.length).length:=p.len' (by omega) (Lh _);rw [h4 _ i8 ?_]
 ·exact inv.un j2 hj2 (fun h=>hn2 (.inl h)) i hi
 intro e;have hl1:=newlt j hjl;have hne:j2≠j:=fun e=>hn2 (.inr e)
 by_cases h:j2<j
 ·have:=p.len' (show j2+1≤j by omega) (by omega);omega
 have:=p.len' (show j+1≤j2 by omega) (by omega);omega
theorem InvD.goes (p:Plan P Gl ops cs tms Hs vs es Rs As) {θ0:Th} {w0:World} {L:Nat->Prop} {θ:Th} {tm:List AV} {H:List AObj} {a:Act} {w:World} (inv:InvD cs tms Hs es θ0 w0 L θ tm H a w) (hG:GlobOK Gl θ H w)
  {j:Nat} {o:Oper} (hjl:j<cs.length) (ho:ops[j]? = some o) (hn:¬ L j) (he:∀ e∈o.after,Region.binds .any e=true->L e.on) {Q:Exit->Act->World->Prop} {K:Act->World->Prop}
  (hK:∀ θ' tm' H' a' w',InvD cs tms Hs es θ0 w0 (fun i=>L i∨i=j) θ' tm' H' a' w'->K a' w'):wpOp P ops Q j K a w:=by
 have hc:=La hjl;generalize cs[j]=c at hc;have hb:∀ b,c.bef.testBit b=true->L b:=fun b=>p.bef_closed inv.clo ho hc he;obtain ⟨o1,o2,o3⟩:=p.op j o c ho hc
 have hslots:∀ t∈c.slots,tm.getD t .any=(tms j).getD t .any:=by
  intro t ht
  have:=inv.sl t j (by omega) (fun i d hd hdt=>by
   by_cases hij:i=j
   ·simp_all
   rcases (p.slot i d t hd hdt j c hc hij).2 ht with h | h
   ·exact ⟨fun _=>hb i h,fun _=>p.bef_lt j c i hc h⟩
   have hlt:=p.bef_lt i d j hd h
   exact ⟨fun h'=>by omega,fun h'=>absurd (inv.clo i d j hd h' h) hn⟩)
  simp_all
 have hops:∀ t∈c.op.slots,tm.getD t .any=(tms j).getD t .any:=fun t ht=>hslots t (by simp_all [COper.slots]);have hguard:∀ t want,c.guard=some (t,want)->tm.getD t .any=(tms j).getD t .any:=fun t want hg=>hslots t (by simp [COper.slots,hg])
 have hreads:∀ x∈Rs j,∀ ob,(Hs j)[x]? = some ob->H[x]? = some ob:=by
  intro x hx ob hob;rw [inv.hp x j (by omega) (p.ord inv.clo hc hn hb (.inl hx)),Qky (Ld.1 hob).1];exact hob
 have want:Q9j c (tms j)->Region.wanted o (yielded ops a.tmps)=true:=by
  intro hw;unfold Q9j at hw
  cases hg:c.guard with
  | none=>
   grind [Region.wanted,Wd]
  | some tw=>
   obtain ⟨t,want⟩:=tw;rw [hg] at hw;simp only [] at hw;rw [Qid inv.hT o3 hg (by rw [hguard t want hg];omega)];simp
 have skip:Region.wanted o (yielded ops a.tmps)=false->vs j=Uw->es j=⟨[],[]⟩->wpOp P ops Q j K a w:=by
  intro hw hv hes;unfold wpOp;rw [ho];simp only [hw,Mg,Al];rw [o1]
  have happ:(es j).app H (Hs j).length=H:=by rw [hes];rfl
  exact hK θ _ _ _ w (inv.after p hc hn hb (by simp_all [Q4n]) (by rw [happ];exact inv.hH) (by rw [happ];exact .refl _ _ _) (fun _ _ _=>rfl))
 have hd:=p.did j c hc;generalize hev:vs j=v at hd;generalize hee:es j=e at hd;generalize hR:Rs j=R at hd hreads;generalize hA:As j=A at hd
 cases hd with
 | skip t want b hg hv hne=>
  refine skip ?_ hev hee;rw [Qid inv.hT o3 hg (by rw [hguard t want hg];omega)]
  simp_all
 | skipU t want hg hv=>
  refine skip ?_ hev hee;exact Qoo inv.hT o3 hg (by simp_all)
 | run _ ef hw hcl hs=>
  unfold wpOp;rw [ho];simp only [want hw,Ak];refine .inl ?_;have hs':step Gl tm H (Hs j).length c.op=some (v,ef):=Qv4 hs hops hreads
  have key:∃ na',AlOk θ H na'∧step Gl tm H na' c.op=some (v,ef)∧ef.apply H na'=(es j).app H (Hs j).length∧(na'=(Hs j).length∨ef.new=none):=by
   rw [hee,Eff.chg_app]
   cases hnew:ef.new with
   | none=>exact ⟨H.length,.inl rfl,Z5r hs' hnew,by simp_all [Eff.apply],.inr rfl⟩
   | some ob=>
    have hes:(es j).new.length=1:=by rw [hee];show ef.new.toList.length=1;rw [hnew];rfl
    refine ⟨(Hs j).length,.inr ⟨?_,inv.un j hjl hn 0 (by omega)⟩,hs',rfl,.inl rfl⟩;have ha:Aff Hs es j (Hs j).length := .inr ⟨Lh _,by omega⟩;have hlt:=p.aff_lt hjl ha;have hN1:(Hs (j+1)).length≤(Hs cs.length).length:=p.len' (by omega) (Lh _);rw [inv.hp _ j (by omega) (p.ord inv.clo hc hn hb (.inr ha))]
    grind [Qyb]
  obtain ⟨na',k1,k2,k3,k4⟩:=key;obtain ⟨cv,w',θ',hr,q1,q2,q3,q4,q5⟩:=Qrz inv.hT inv.hH hG k1 o2 hcl k2;rw [k3] at q1 q2 q3
  have fin:K (a.put o.dst cv) w':=by
   rw [o1];refine hK θ' _ _ _ w' (inv.after p hc hn hb (by simp_all) q2 q3 (fun b _ hb'=>?_))
   rcases k4 with k4 | k4
   ·by_cases he:b=na'
    ·by_cases hz:ef.new=none
     ·simp_all
     exfalso;refine hb' ⟨by omega,?_⟩;rw [hee];show b<_+ef.new.toList.length;cases hq:ef.new<;>simp_all
    simp_all
   simp_all
  unfold Oper.wp
  rcases hr with hr | ⟨hr,rfl⟩
  ·rw [hr];exact fin
  rw [hr];exact fin
 | call _ sets _ hw hcl hss h=>
  unfold wpOp;rw [ho];simp only [want hw,Ak];refine .inl ?_;have hev':=h tm H hops hreads;refine Q76 inv.hT inv.hH hG o2 hev' ?_
  rintro v' cv H' θ' w' ⟨rfl,rfl⟩ r1 r2 r3
  rw [o1]
  have happ:(es j).app H (Hs j).length=Q5l sets H:=by rw [hee];rfl
  exact hK θ' _ _ _ w' (inv.after p hc hn hb (by simp_all) (by simp_all) (by rw [happ];exact r3.toEvo) (fun b hb' _=>r3.old b hb'))
 | callN _ obs _ _ hAA hw hcl h=>
  unfold wpOp;rw [ho];simp only [want hw,Ak];refine .inl ?_
  have hes:(es j).new=obs:=by simp_all
  have hal:∀ i,i<obs.length->H[(Hs j).length+i]? = some .dead ∧ θ ((Hs j).length+i)=none:=fun i hi=>by
   have ha:Aff Hs es j ((Hs j).length+i) := .inr ⟨by omega,by simp_all⟩;have hlt:=p.aff_lt hjl ha;have hN1:(Hs (j+1)).length≤(Hs cs.length).length:=p.len' (by omega) (Lh _);refine ⟨?_,inv.un j hjl hn i (by simp_all)⟩;rw [inv.hp _ j (by omega) (p.ord inv.clo hc hn hb (.inr ha))]
   grind [Qyb]
  have hev':=h tm H hops hreads;refine Qi9 inv.hT o2 hcl (fun f args hcall=>⟨hcall.1,fun cargs hargs=>(hcall.2 θ w cargs hal hargs inv.hH hG).mono ?_⟩) hev'
  rintro e' w' ⟨v',cr,H',θ',rfl,⟨rfl,rfl⟩,r1,r2,r3,r4⟩
  refine ⟨cr,rfl,?_⟩;rw [o1]
  have happ:(es j).app H (Hs j).length=Qh1 H (Hs j).length obs:=by rw [hee];rfl
  exact hK θ' _ _ _ w' (inv.after p hc hn hb (by simp_all) (by simp_all) (by simp_all) (fun b _ hb'=>r4 b (by simp_all)))
end
end
end Go.Av
namespace Go.Av
noncomputable section
set_option maxHeartbeats 4000000
section
variable {P:Program} {Gl:Nat->Option (List PV)}

def Z8b {θ:Th} {H:List AObj} {N c:Nat} (h:NL θ H c):NL θ (pad N H) c:=by
 intro a o l ha hl hθ
 by_cases hlt:a<H.length
 ·rw [Qky hlt] at ha;exact h a o l ha hl hθ
 unfold pad at ha;rw [Lq (by omega),My] at ha;split at ha
 ·cases ha;cases hl
 simp_all
def Qiy {H:List AObj} {N a:Nat} {o:AObj} (h:(pad N H)[a]? = some o) (hl:o.live=true):H[a]? = some o:=by
 by_cases hlt:a<H.length
 ·rwa [Qky hlt] at h
 unfold pad at h;rw [Lq (by omega),My] at h;split at h
 ·cases h;cases hl
 simp_all
def Qiw (θ:Th) (H:List AObj) (w:World) (N n:Nat):Evo θ H w θ (pad N H) { w with drawn:=n }:=
 ⟨fun _ _ h=>h,rfl,fun _ _ h=>⟨Z8b h,rfl⟩,Lh _,rfl,rfl,rfl⟩
def Qrn {θ:Th} {H:List AObj} {w:World} (h:Hp θ H w) (N n:Nat):Hp θ (pad N H) { w with drawn:=n }:=by
 have e:=Qiw θ H w N n;refine ⟨fun a o l ha hl=>?_,fun a b oa ob la lb ha hb hla hlb=>h.dist a b oa ob la lb (Qiy ha hla) (Qiy hb hlb) hla hlb,fun a ha=>?_,fun a o l ha hl=>h.good a o l (Qiy ha hl) hl,h.badlt,fun b R e hb=>h.tok b R e (Qiy hb rfl)⟩
 ·cases ho:o.live with
  | true=>exact (h.obj a o l (Qiy ha ho) hl).mono e.ext e.free (fun _ _ _=>rfl) (Lh _)
  | false=>cases o<;>first | (cases ho;done) | trivial
 ·exact h.fresh a (by grind [pad])

def Qd {cs:List COper} {tm:List AV} {H:List AObj} {k:List AV->List AObj->Prop} (h:Q0f (EP P Gl) (Wz P Gl) k cs tm H 0 []):Qa1 P Gl cs tm H k:=by
 intro id ops hk hm hst θ a w hT hH hG;obtain ⟨_,tms,Hs,vs,es,Rs,As,rfl,rfl,hkk,hpath,hap⟩:=Qbi cs tm H 0 [] h;obtain ⟨s1,s2⟩:=Q51 ops.toList cs hk;simp only [Qv3,Le] at hst
 have tol:∀ (i:Nat) o,ops[i]? = some o->ops.toList[i]? = some o:=fun i o h=>by simp_all
 have psz:ops.size=cs.length:=by omega
 have p:Plan P Gl ops cs tms Hs vs es Rs As:=by
  refine { toPath:=hpath,size:=(by omega),apart:=fun i i' c c' hlt hc hc'=>?_,op:=fun i o c ho hc=>s2 i o c (tol i o ho) hc,edge:=fun i o c ho hc=>?_,slot:=fun i c t hc hd j d hj hne=>?_ }
  ·simp_all
  ·grind [Q91]
  have:=Q8o cs 0 hst.2 i c t hc hd j d hj (by omega)
  simp_all
 refine wp_region_any hm ?_
 let w1:World := { w with drawn:=w.drawn+1 }
 have e1:Evo θ (Hs 0) w θ (pad (Hs cs.length).length (Hs 0)) w1:=Qiw θ (Hs 0) w _ _;have h01:(Hs 0).length≤(Hs cs.length).length:=p.len' (Lk _) (Lh _)
 have main:∀ (fuel:Nat) (listed:Array Bool) (θ':Th) (tm':List AV) (H':List AObj) (a':Act) (w':World),listed.size=ops.size->listed.toList.count false≤fuel ->
   InvD cs tms Hs es θ w1 (fun i=>listed.getD i false=true) θ' tm' H' a' w' ->
   wpAny P .any ops (Z6y θ (Hs 0) w (fun ce tm' H'=>ce = .normal∧k tm' H')) fuel listed a' w':=by
  have done:∀ (listed:Array Bool) (θ':Th) (tm':List AV) (H':List AObj) (a':Act) (w':World),listed.size=ops.size->Region.ready .any ops listed = [] ->
    InvD cs tms Hs es θ w1 (fun i=>listed.getD i false=true) θ' tm' H' a' w'->Z6y θ (Hs 0) w (fun ce tm' H'=>ce = .normal∧k tm' H') .normal a' w':=by
   intro listed θ' tm' H' a' w' hsz hr inv
   have all:∀ j,j<ops.size->listed.getD j false=true:=by
    intro j
    induction j using Nat.strongRecOn with
    | _ j ih=>
     intro hj;apply Lo;intro hn;have ho:=Me hj;have hc:=La (show j<cs.length by omega)
     have:j∈Region.ready .any ops listed:=by
      rw [mem_ready];refine ⟨?_,_,ho,fun e he hb=>?_⟩
      ·grind
      have hlt:=(p.edge j _ _ ho hc).1 e he hb
      grind
     simp_all
   have hall:∀ i,i<cs.length->(i<cs.length↔listed.getD i false=true):=fun i hi=>⟨fun _=>all i (by omega),fun _=>hi⟩
   have e2:tm'=tms cs.length:=by
    apply Lw;intro t;exact inv.sl t cs.length (Lh _) (fun i c hc _=>hall i (Ld.1 hc).1)
   have e3:H'=Hs cs.length:=by
    apply Lw;intro x;rw [inv.hp x cs.length (Lh _) (fun i hi _=>hall i hi),Qgt]
   subst e2;subst e3;exact ⟨.normal,_,_,θ',trivial,⟨rfl,hkk⟩,inv.hT,inv.hH,⟨e1.trans inv.evo,h01,inv.old⟩⟩
  intro fuel
  induction fuel with
  | zero=>
   intro listed θ' tm' H' a' w' hsz hcnt inv
   have hr:Region.ready .any ops listed = []:=by
    cases hrr:Region.ready .any ops listed with
    | nil=>rfl
    | cons j rest=>
     have hj:j∈Region.ready .any ops listed:=by simp_all
     rw [mem_ready] at hj;obtain ⟨h0,o,ho,_⟩:=hj
     have hlt:j<listed.size:=by grind
     have:false∈listed.toList:=by
      rw [Mu];refine ⟨j,?_⟩;simp [Array.getD,hlt] at h0;simp [hlt,h0]
     grind
   exact ⟨hr,done listed θ' tm' H' a' w' hsz hr inv⟩
  | succ fuel ih=>
   intro listed θ' tm' H' a' w' hsz hcnt inv;refine ⟨fun hr=>done listed θ' tm' H' a' w' hsz hr inv,fun j hj=>?_⟩;rw [mem_ready] at hj;obtain ⟨h0,o,ho,he⟩:=hj
   have hlt:j<listed.size:=by grind
   have hget:listed[j]=false:=fk
   refine inv.goes p ((hG.evo e1).evo inv.evo) (by omega) ho (by grind) he (fun θ2 tm2 H2 a2 w2 inv2=>ih _ θ2 tm2 H2 a2 w2 (by grind) ?_ ?_)
   ·grind
   exact aK
 refine main ops.size _ θ (tms 0) (pad (Hs cs.length).length (Hs 0)) a w1 (by simp) (by simp) ?_;refine ⟨hT.mono e1,Qrn hH _ _,.refl _ _ _,fun _ _=>rfl,Qlr h01,rfl,?_,?_,?_,?_⟩
 ·simp_all [Array.getD]
 ·intro t j hj hcond
  have hno:∀ i c,0≤i->i<0+j->cs[i]? = some c->c.dst≠some t:=fun i c _ hlt hc hd=>by
   have:=(hcond i c hc hd).1 (by omega)
   simp_all [Array.getD]
  have:=p.tsame (i:=0) (t:=t) j (by omega) hno
  grind
 ·intro x j hj hcond
  have hno:∀ i,0≤i->i<0+j->¬ Aff Hs es i x:=fun i _ hlt ha=>by
   have:=(hcond i (by omega) ha).1 (by omega)
   simp_all [Array.getD]
  have:=p.same (i:=0) (x:=x) (N:=(Hs cs.length).length) (Lh _) j (by omega) hno
  simp_all
 intro j hj _ i _;have:=p.len' (Lk j) (by omega);exact hH.fresh _ (by omega)
end
end
end Go.Av
