/- Part of FromsnNames: the law returns true; no condition. -/
import Derived.Test.YtfgpphgmjcnleaaGreatDoorAvMeth
import Derived.Test.YtfgpphgmjcnleaaGreatDoorAvDraws
set_option linter.all false
namespace Go.Av
noncomputable section
mutual
def Wf:PV->Bool
 | .bool _=>true
 | .int _ _=>true
 | .str _=>true
 | .nilPtr=>true
 | .nilSlice=>true
 | .nilMap=>true
 | .nilFunc=>true
 | .nilIface=>true
 | .slice _ []=>true
 | .agg cs=>Qam cs
 | .tuple cs=>Qam cs
 | _=>false
def Qam:List PV->Bool
 | []=>true
 | x::xs=>Wf x&&Qam xs
end
mutual
theorem J5 {S S':Nat->Prop} {w w':World}:∀ (x:PV) (v:Value),Wf x=true->RelP S w x v->RelP S' w' x v
 | .bool _,_,_,h=>by cases h;exact .bool _
 | .int _ _,_,_,h=>by cases h;exact .int _ _
 | .str _,_,_,h=>by cases h;exact .str _
 | .nilPtr,_,_,h=>by cases h;exact .nilPtr
 | .nilSlice,_,_,h=>by cases h;exact .nilSlice
 | .nilMap,_,_,h=>by cases h;exact .nilMap
 | .nilFunc,_,_,h=>by cases h;exact .nilFunc
 | .nilIface,_,_,h=>by cases h;exact .nilIface
 | .slice e [],_,_,h=>by
  cases h with
  | sliceE _ a c hn=>exact .sliceE e a c hn
  | slice _ _ blk off cap val he hr hcap hS hc h1 hv=>exact .sliceE e _ cap (fun h=>by cases h)
 | .slice _ (_::_),_,h,_=>by simp [Wf] at h
 | .pmap _,_,h,_=>by simp [Wf] at h
 | .func _ _ _,_,h,_=>by simp [Wf] at h
 | .iface _ _,_,h,_=>by simp [Wf] at h
 | .agg cs,_,hf,h=>by
  simp only [Wf] at hf
  cases h with
  | agg _ C hn h1 hv=>exact .agg cs C hn h1 (Q9s cs hf (fun i=>C.getD i Qc) hv)
 | .tuple cs,_,hf,h=>by
  simp only [Wf] at hf
  cases h with
  | tuple _ C hn hv=>exact .tuple cs C hn (Q9s cs hf (fun i=>C.getD i Qc) hv)
theorem Q9s {S S':Nat->Prop} {w w':World}:∀ (xs:List PV),Qam xs=true->∀ (g:Nat->Value),(∀ (i:Nat) x,xs[i]? = some x->RelP S w x (g i))->∀ (i:Nat) x,xs[i]? = some x->RelP S' w' x (g i)
 | [],_,_,_,i,x,hx=>by simp at hx
 | y::xs,hf,g,h,i,x,hx=>by
  simp only [Qam,Lb] at hf
  cases i with
  | zero=>simp at hx;subst hx;exact J5 y _ hf.1 (h 0 y rfl)
  | succ i=>exact Q9s xs hf.2 (fun i=>g (i+1)) (fun i x hx=>h (i+1) x (by simpa using hx)) i x (by simpa using hx)
end

section
variable {P:Program} {Gl:Nat->Option (List PV)}
theorem Q5x {f:Nat} {args:List AV} {pargs:List PV} {r:PV} {H:List AObj} {Q:AV->List AObj->Prop} (hp:Q5r P Gl f pargs r) (hf:FrzL (fun _=>True) H args pargs) (hr:Wf r=true) (hq:Q (.p r) H):Q8 P Gl f args H Q:=by
 refine ⟨hp.1,fun θ w cargs ha hH hG=>?_⟩;obtain ⟨a1,a2⟩:=Qae (S:=fun c=>¬ θ.bad c) hH (fun c h=>h.1) (fun a o l _ ho hl hθ hb=>hH.good a o l ho hl hθ hb) hf ha;refine (hp.2 θ.bad w cargs hH.badlt a1 a2 (Q9t hG (fun c _ hf=>hf.1))).mono ?_
 rintro e w' ⟨cr,rfl,q1,q2⟩
 obtain ⟨h1,h2⟩:=Q6q hH q2;exact ⟨_,cr,H,θ,rfl,hq,.p _ _ (J5 r cr hr q1),h1,h2⟩
end

theorem Qcu {θ:Th} {w:World}:∀ (R:List Nat) {H:List AObj},Hp θ H w->Hp θ (J7 (R.map fun a=>(a,.dead)) H) w∧EvoS θ H w θ (J7 (R.map fun a=>(a,.dead)) H) w ∧
  (∀ a∈R,a<H.length->(J7 (R.map fun a=>(a,.dead)) H)[a]? = some .dead)∧(∀ (a:Nat) (o:AObj),(J7 (R.map fun a=>(a,.dead)) H)[a]? = some o->o.live=true->H[a]? = some o)
 | [],H,h=>⟨h,.refl _ _ _,fun a ha=>by simp at ha,fun a o ha _=>ha⟩
 | b::R,H,h=>by
  have Ql:Hp θ (H.set b .dead) w∧EvoS θ H w θ (H.set b .dead) w:=by
   cases hb:H[b]? with
   | none=>
    have:H.set b .dead=H:=by
     apply List.set_eq_of_length_le;exact Bq.1 hb
    rw [this];exact ⟨h,.refl _ _ _⟩
   | some o=>
    by_cases ho:o.live=true
    ·obtain ⟨k1,k2⟩:=Qcs h hb ho;exact ⟨k1,k2,by simp,fun _ _=>rfl⟩
    have ho:o = .dead:=by cases o<;>simp [AObj.live] at ho;rfl
    subst ho;have hlt:=(La.1 hb).1
    have:H.set b .dead=H:=by
     apply Mb ;intro i
     by_cases hi:b=i
     ·subst hi;rw [Li hlt,hb]
     rw [Lg hi]
    rw [this];exact ⟨h,.refl _ _ _⟩
  obtain ⟨s1,s2⟩:=Ql;obtain ⟨k1,k2,k3,k4⟩:=Qcu R s1
  have keep:∀ (L:List Nat) (G:List AObj) (a:Nat),G[a]? = some .dead->(J7 (L.map fun a=>(a,AObj.dead)) G)[a]? = some .dead:=by
   intro L
   induction L with
   | nil=>intro G a ha;exact ha
   | cons c L ih=>
    intro G a ha;refine ih (G.set c .dead) a ?_
    by_cases hc:c=a
    ·subst hc;rw [Li (La.1 ha).1]
    rw [Lg hc];exact ha
  refine ⟨k1,s2.trans k2,fun a ha hlt=>?_,fun a o ha ho=>?_⟩
  ·rcases Mp.1 ha with rfl | ha
   ·exact keep R (H.set a .dead) a (by rw [Li hlt])
   exact k3 a ha (by simpa using hlt)
  have h1:=k4 a o ha ho
  by_cases hb:b=a
  ·subst hb;rw [Nq] at h1;simp at h1;obtain ⟨_,rfl⟩:=h1;simp [AObj.live] at ho
  rwa [Lg hb] at h1
theorem Qk7 {P:Program} {Gl:Nat->Option (List PV)} {f:Nat} {args:List AV} {pargs:List PV} {r:PV} {H:List AObj} {Q:AV->List AObj->Prop} (R:List Nat) (hp:Q5r P Gl f pargs r) (hf:FrzL (fun a=>a∈R) H args pargs)
  (hR:∀ a∈R,a<H.length) (hq:Q (.p r) (J7 (R.map fun a=>(a,.dead)) H)):Q8 P Gl f args H Q:=by
 refine ⟨hp.1,fun θ w cargs ha hH hG=>?_⟩;obtain ⟨k1,k2,k3,k4⟩:=Qcu R hH;generalize hK:J7 (R.map fun a=>(a,AObj.dead)) H=K at k1 k2 k3 k4 hq;have hfree:∀ c,Qe θ H c->Qe θ K c:=fun c hc=>⟨hc.1,fun a o l h1 h2 h3=>hc.2 a o l (k4 a o h1 h2) h2 h3⟩
 obtain ⟨a1,a2⟩:=Qae (S:=Qe θ K) hH (fun c h=>hfree c h) (fun a o l hk ho hl hθ c hc=>⟨hH.good a o l ho hl hθ c hc,fun b ob lb h1 h2 h3 e=>by
  have h4:=k4 b ob h1 h2
  by_cases hab:a=b
  ·subst hab;have:=k3 a hk (hR a hk);rw [this] at h1;cases h1;simp [AObj.live] at h2
  exact hH.dist a b o ob l lb ho h4 hl h2 hθ h3 hab c hc e⟩) hf ha
 have hbad:∀ c,c<w.heap.size->Qe θ K c->¬ (c<w.heap.size∧¬ Qe θ K c):=fun c _ h h'=>h'.2 h;have hGK:=hG.evo k2.toEvo;refine (hp.2 (fun c=>c<w.heap.size∧¬ Qe θ K c) w cargs (fun c h=>h.1) a1 (fun i x hx=>(a2 i x hx).mono (fun c _ hfr=>⟨fun h=>h.2 hfr,rfl⟩)) (Q9t hGK hbad)).mono ?_
 rintro e w' ⟨cr,rfl,q1,q2⟩
 obtain ⟨h1,h2⟩:=Q6q k1 q2;refine ⟨_,cr,K,θ,rfl,hq,.p _ _ (q1.mono (fun c hc hn=>⟨?_,rfl⟩)),h1,k2.trans h2⟩
 by_cases hlt:c<w.heap.size
 ·exact Ln fun hfr=>hn ⟨hlt,hfr⟩
 refine ⟨fun hb=>hlt (k1.badlt c hb),fun a o l ha hl hθ e=>?_⟩;have:=(k1.obj a o l ha hθ).lt hl c e;omega
theorem Qbk {P:Program} {Gl:Nat->Option (List PV)} {f:Nat} {args:List AV} {pargs:List PV} {r:PV} {H:List AObj} {k:AV->List AObj->List Nat->List Nat->Prop} (R:List Nat) (hp:Q5r P Gl f pargs r) (hf:FrzL (fun a=>a∈R) H args pargs)
  (hR:∀ a∈R,a<H.length) (hk:k (.p r) (J7 (R.map fun a=>(a,.dead)) H) R R):Qv P Gl f args H k:=by
 refine .inl ⟨R,R.map fun a=>(a,.dead),.p r,fun s hs=>?_,fun H2 hH2=>?_,?_⟩
 rotate_left 2
 ·have e:(R.map fun a=>(a,AObj.dead)).map (·.1)=R:=by rw [Nd];exact List.map_id' R
  rw [e];exact hk
 ·obtain ⟨a,ha,rfl⟩:=Mm.1 hs;exact hR a ha
 refine Qk7 R hp (hf.K (fun a o h1 h2=>⟨h1,hH2 a h1 o h2⟩)) (fun a ha=>?_) ⟨rfl,rfl⟩;have h1:=hR a ha;have:H2[a]? = some H[a]:=hH2 a ha _ (Lc h1);exact (La.1 this).1
def Qr4:Nat:=40
def Q96 (H:List AObj) (vs:List AV):Option (List PV):=Qlk (Qju Qr4 H) vs
def Jz (H:List AObj) (vs:List AV):List Nat:=vs.flatMap (Ji Qr4 H)
theorem Uj {H:List AObj} (vs:List AV) (xs:List PV) (h:Q96 H vs=some xs):FrzL (fun a=>a∈Jz H vs) H vs xs:=Ga (fun v x h=>Q6w Qr4 v x h) vs xs h
end
end Go.Av
namespace Go.Av
noncomputable section
section
variable {P:Program} {Gl:Nat->Option (List PV)}

theorem Qby {f n:Nat} {args:List AV} {r:AV} (hargs:refsLt.refsLts n args=true) (hr:refsLt n r=true) (hc:Q8 P Gl f args (List.replicate n .dead) (fun v _=>v=r)) (H:List AObj) :
  Q8 P Gl f args H (fun v H'=>v=r∧H'=H):=by
 refine ⟨hc.1,fun θ w cargs ha hH hG=>?_⟩
 let bad0:Nat->Prop:=fun c=>c<w.heap.size∧¬ Qe θ H c
 let θ0:Th:=⟨fun a=>if a<n then θ a else none,bad0⟩
 let H0:List AObj:=List.replicate n .dead
 have dead:∀ (a:Nat) o,H0[a]? = some o->o.live=false:=fun a o h=>by
  simp only [H0,Mi] at h;split at h
  ·cases h;rfl
  cases h
 have nl:∀ c,NL θ0 H0 c:=fun c a o l h hl _=>by rw [dead a o h] at hl;cases hl
 have hfree:∀ c,Qe θ H c->Qe θ0 H0 c:=fun c hf=>⟨fun hb=>hb.2 hf,nl c⟩
 have hH0:Hp θ0 H0 w:=by
  refine ⟨fun a o l h _=>?_,fun a b oa ob la lb h _ hl _ _ _ _=>?_,fun a h=>?_,fun a o l h hl _=>?_,fun c hc=>hc.1,fun b R e h=>by have:=dead b _ h;cases this⟩
  ·have:=dead a o h
   cases o<;>first | (cases this;done) | trivial
  ·rw [dead a oa h] at hl;cases hl
  ·simp only [H0,Bk] at h;simp only [θ0];rw [Ae (by omega)]
  rw [dead a o h] at hl;cases hl
 have hG0:GlobOK Gl θ0 H0 w:=by
  intro g cs hg;obtain ⟨g1,g2,vs',g3,g4,g5⟩:=hG g cs hg;exact ⟨g1,hfree g g2,vs',g3,g4,fun j x hx=>⟨(g5 j x hx).1,(g5 j x hx).2.mono (fun c _ hf=>⟨hfree c hf,rfl⟩)⟩⟩
 have ha0:Q01 θ0 (Qe θ0 H0) w args cargs:=by
  refine ⟨ha.1,fun i v hv=>?_⟩;have h1:=Q0l (θ := θ) (S:=Qe θ H) (w:=w) (n:=n) args hargs (fun i=>cargs.getD i Qc) (fun i x hx=>ha.2 i x hx) i v hv;exact Ap (θ:=cutθ θ n) (θ' := θ0) (fun _ _ e=>e) (fun c _ hf=>⟨hfree c hf,rfl⟩) h1
 refine (hc.2 θ0 w cargs ha0 hH0 hG0).mono ?_
 rintro e w' ⟨v,cr,H',θ',rfl,rfl,q2,q3,q4⟩
 have hb:RowKit.Below w.heap.size w w':=⟨q4.os,q4.tape,q4.output,q4.size,fun c hc=>(q4.nl c hc (nl c)).2⟩;obtain ⟨g1,g2⟩:=Q6q hH hb;refine ⟨v,cr,H,θ,rfl,⟨rfl,rfl⟩,?_,g1,g2⟩;have h2:=Q64 (θ := θ') (S:=Qe θ' H') (w:=w') v cr hr q2;refine h2.mono (θ' := θ) (fun a l h=>?_) (fun c hc hf=>⟨?_,rfl⟩)
 ·simp only [cutθ] at h;split at h
  ·rename_i hlt;rw [q4.old a (by simp;exact hlt)] at h;simp only [θ0,Af hlt] at h;exact h
  cases h
 have hbe : θ'.bad=bad0:=q4.bad
 by_cases hlt:c<w.heap.size
 ·have h3:=hf.1;rw [hbe] at h3;exact Ln fun hn=>h3 ⟨hlt,hn⟩
 refine ⟨fun hb=>hlt (hH.badlt c hb),fun a o l ha hl hθ e=>?_⟩;have:=(hH.obj a o l ha hθ).lt hl c e;omega
end
end
end Go.Av
