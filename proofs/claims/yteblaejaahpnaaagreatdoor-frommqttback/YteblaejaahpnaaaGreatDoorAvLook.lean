/- Part of the proof of FrommqttBack: for every input the law returns true; no condition. -/
import Derived.Test.YteblaejaahpnaaaGreatDoorAvMeth
import Derived.Test.YteblaejaahpnaaaGreatDoorAvFreeze
import Derived.Test.YteblaejaahpnaaaGreatDoorAvDraws
set_option linter.all false
namespace Go.Av
noncomputable section
mutual
def Q86:PV→Bool
 | .bool _=>true
 | .int _ _=>true
 | .str _=>true
 | .nilPtr=>true
 | .nilSlice=>true
 | .nilMap=>true
 | .nilFunc=>true
 | .nilIface=>true
 | .slice _ []=>true
 | .agg cs=>Qie cs
 | .tuple cs=>Qie cs
 | _=>false
def Qie:List PV→Bool
 | []=>true
 | x::xs=>Q86 x&&Qie xs
end
mutual
theorem Qrh {S S':Nat→Prop} {w w':World}:∀ (x:PV) (v:Value),Q86 x=true→RelP S w x v→RelP S' w' x v
 | .bool _,_,_,h=>by cases h;exact .bool _
 | .int _ _,_,_,h=>by cases h;exact .int _ _
 | .str _,_,_,h=>by cases h;exact .str _
 | .nilPtr,_,_,h=>by cases h;exact .nilPtr
 | .nilSlice,_,_,h=>by cases h;exact .nilSlice
 | .nilMap,_,_,h=>by cases h;exact .nilMap
 | .nilFunc,_,_,h=>by cases h;exact .nilFunc
 | .nilIface,_,_,h=>by cases h;exact .nilIface
 | .slice e [],_,_,h=>by
  cases h with
  | sliceE _ a c hn=>exact .sliceE e a c hn
  | slice _ _ blk off cap val he hr hcap hS hc h1 hv=>exact .sliceE e _ cap (fun h=>by cases h)
 | .slice _ (_::_),_,h,_=>by simp [Q86] at h
 | .pmap _,_,h,_=>by simp [Q86] at h
 | .func _ _ _,_,h,_=>by simp [Q86] at h
 | .iface _ _,_,h,_=>by simp [Q86] at h
 | .agg cs,_,hf,h=>by
  simp only [Q86] at hf
  cases h with
  | agg _ C hn h1 hv=>exact .agg cs C hn h1 (Qj8 cs hf (fun i=>C.getD i Zp) hv)
 | .tuple cs,_,hf,h=>by
  simp only [Q86] at hf
  cases h with
  | tuple _ C hn hv=>exact .tuple cs C hn (Qj8 cs hf (fun i=>C.getD i Zp) hv)
theorem Qj8 {S S':Nat→Prop} {w w':World}:∀ (xs:List PV),Qie xs=true→∀ (g:Nat→Value),(∀ (i:Nat) x,xs[i]? = some x→RelP S w x (g i))→∀ (i:Nat) x,xs[i]? = some x→RelP S' w' x (g i)
 | [],_,_,_,i,x,hx=>by simp at hx
 | y::xs,hf,g,h,i,x,hx=>by
  simp only [Qie,La] at hf
  cases i with
  | zero=>simp at hx;subst hx;exact Qrh y _ hf.1 (h 0 y rfl)
  | succ i=>exact Qj8 xs hf.2 (fun i=>g (i+1)) (fun i x hx=>h (i+1) x (by simpa using hx)) i x (by simpa using hx)
end

section
variable {P:Program} {Gl:Nat→Option (List PV)}
theorem Qe5 {f:Nat} {args:List AV} {pargs:List PV} {r:PV} {H:List AObj} {Q:AV→List AObj→Prop} (hp:Qci P Gl f pargs r) (hf:FrzL (fun _=>True) H args pargs) (hr:Q86 r=true) (hq:Q (.p r) H):U7 P Gl f args H Q:=by
 refine ⟨hp.1,fun θ w cargs ha hH hG=>?_⟩;obtain ⟨a1,a2⟩:=Qj6 (S:=fun c=>¬ θ.bad c) hH (fun c h=>h.1) (fun a o l _ ho hl hθ hb=>hH.good a o l ho hl hθ hb) hf ha;refine (hp.2 θ.bad w cargs hH.badlt a1 a2 (Qif hG (fun c _ hf=>hf.1))).mono ?_
 rintro e w' ⟨cr,rfl,q1,q2⟩
 obtain ⟨h1,h2⟩:=Qe3 hH q2;exact ⟨_,cr,H,θ,rfl,hq,.p _ _ (Qrh r cr hr q1),h1,h2⟩
end

theorem Qqu {θ:Th} {w:World}:∀ (R:List Nat) {H:List AObj},Hp θ H w→Hp θ (Q5t (R.map fun a=>(a,.dead)) H) w∧EvoS θ H w θ (Q5t (R.map fun a=>(a,.dead)) H) w ∧
  (∀ a∈R,a<H.length→(Q5t (R.map fun a=>(a,.dead)) H)[a]? = some .dead)∧(∀ (a:Nat) (o:AObj),(Q5t (R.map fun a=>(a,.dead)) H)[a]? = some o→o.live=true→H[a]? = some o)
 | [],H,h=>⟨h,.refl _ _ _,fun a ha=>by simp at ha,fun a o ha _=>ha⟩
 | b::R,H,h=>by
  have Zh:Hp θ (H.set b .dead) w∧EvoS θ H w θ (H.set b .dead) w:=by
   cases hb:H[b]? with
   | none=>
    have:H.set b .dead=H:=by
     apply Cg;exact List.getElem?_eq_none_iff.1 hb
    rw [this];exact ⟨h,.refl _ _ _⟩
   | some o=>
    by_cases ho:o.live=true
    ·obtain ⟨k1,k2⟩:=Qll h hb ho;exact ⟨k1,k2,by simp,fun _ _=>rfl⟩
    have ho:o = .dead:=by cases o<;>simp [AObj.live] at ho;rfl
    subst ho;have hlt:=(Lb.1 hb).1
    have:H.set b .dead=H:=by
     apply Nk ;intro i
     by_cases hi:b=i
     ·subst hi;rw [Ls hlt,hb]
     rw [Lp hi]
    rw [this];exact ⟨h,.refl _ _ _⟩
  obtain ⟨s1,s2⟩:=Zh;obtain ⟨k1,k2,k3,k4⟩:=Qqu R s1
  have keep:∀ (L:List Nat) (G:List AObj) (a:Nat),G[a]? = some .dead→(Q5t (L.map fun a=>(a,AObj.dead)) G)[a]? = some .dead:=by
   intro L
   induction L with
   | nil=>intro G a ha;exact ha
   | cons c L ih=>
    intro G a ha;refine ih (G.set c .dead) a ?_
    by_cases hc:c=a
    ·subst hc;rw [Ls (Lb.1 ha).1]
    rw [Lp hc];exact ha
  refine ⟨k1,s2.trans k2,fun a ha hlt=>?_,fun a o ha ho=>?_⟩
  ·rcases Ml.1 ha with rfl | ha
   ·exact keep R (H.set a .dead) a (by rw [Ls hlt])
   exact k3 a ha (by simpa using hlt)
  have h1:=k4 a o ha ho
  by_cases hb:b=a
  ·subst hb;rw [Br] at h1;simp at h1;obtain ⟨_,rfl⟩:=h1;simp [AObj.live] at ho
  rwa [Lp hb] at h1
theorem Qwx {P:Program} {Gl:Nat→Option (List PV)} {f:Nat} {args:List AV} {pargs:List PV} {r:PV} {H:List AObj} {Q:AV→List AObj→Prop} (R:List Nat) (hp:Qci P Gl f pargs r) (hf:FrzL (fun a=>a∈R) H args pargs)
  (hR:∀ a∈R,a<H.length) (hq:Q (.p r) (Q5t (R.map fun a=>(a,.dead)) H)):U7 P Gl f args H Q:=by
 refine ⟨hp.1,fun θ w cargs ha hH hG=>?_⟩;obtain ⟨k1,k2,k3,k4⟩:=Qqu R hH;generalize hK:Q5t (R.map fun a=>(a,AObj.dead)) H=K at k1 k2 k3 k4 hq;have hfree:∀ c,Z9 θ H c→Z9 θ K c:=fun c hc=>⟨hc.1,fun a o l h1 h2 h3=>hc.2 a o l (k4 a o h1 h2) h2 h3⟩
 obtain ⟨a1,a2⟩:=Qj6 (S:=Z9 θ K) hH (fun c h=>hfree c h) (fun a o l hk ho hl hθ c hc=>⟨hH.good a o l ho hl hθ c hc,fun b ob lb h1 h2 h3 e=>by
  have h4:=k4 b ob h1 h2
  by_cases hab:a=b
  ·subst hab;have:=k3 a hk (hR a hk);rw [this] at h1;cases h1;simp [AObj.live] at h2
  exact hH.dist a b o ob l lb ho h4 hl h2 hθ h3 hab c hc e⟩) hf ha
 have hbad:∀ c,c<w.heap.size→Z9 θ K c→¬ (c<w.heap.size∧¬ Z9 θ K c):=fun c _ h h'=>h'.2 h;have hGK:=hG.evo k2.toEvo;refine (hp.2 (fun c=>c<w.heap.size∧¬ Z9 θ K c) w cargs (fun c h=>h.1) a1 (fun i x hx=>(a2 i x hx).mono (fun c _ hfr=>⟨fun h=>h.2 hfr,rfl⟩)) (Qif hGK hbad)).mono ?_
 rintro e w' ⟨cr,rfl,q1,q2⟩
 obtain ⟨h1,h2⟩:=Qe3 k1 q2;refine ⟨_,cr,K,θ,rfl,hq,.p _ _ (q1.mono (fun c hc hn=>⟨?_,rfl⟩)),h1,k2.trans h2⟩
 by_cases hlt:c<w.heap.size
 ·exact Mb fun hfr=>hn ⟨hlt,hfr⟩
 refine ⟨fun hb=>hlt (k1.badlt c hb),fun a o l ha hl hθ e=>?_⟩;have:=(k1.obj a o l ha hθ).lt hl c e;omega
theorem Qtl {P:Program} {Gl:Nat→Option (List PV)} {f:Nat} {args:List AV} {pargs:List PV} {r:PV} {H:List AObj} {k:AV→List AObj→List Nat→List Nat→Prop} (R:List Nat) (hp:Qci P Gl f pargs r) (hf:FrzL (fun a=>a∈R) H args pargs)
  (hR:∀ a∈R,a<H.length) (hk:k (.p r) (Q5t (R.map fun a=>(a,.dead)) H) R R):Gu P Gl f args H k:=by
 refine .inl ⟨R,R.map fun a=>(a,.dead),.p r,fun s hs=>?_,fun H2 hH2=>?_,?_⟩
 rotate_left 2
 ·have e:(R.map fun a=>(a,AObj.dead)).map (·.1)=R:=by rw [List.map_map];exact List.map_id' R
  rw [e];exact hk
 ·obtain ⟨a,ha,rfl⟩:=Nq.1 hs;exact hR a ha
 refine Qwx R hp (hf.K (fun a o h1 h2=>⟨h1,hH2 a h1 o h2⟩)) (fun a ha=>?_) ⟨rfl,rfl⟩;have h1:=hR a ha;have:H2[a]? = some H[a]:=hH2 a ha _ (Ld h1);exact (Lb.1 this).1
def Z1f:Nat:=40
def Qmm (H:List AObj) (vs:List AV):Option (List PV):=Qw6 (Qtw Z1f H) vs
def Qd5 (H:List AObj) (vs:List AV):List Nat:=vs.flatMap (Q5s Z1f H)
theorem Q85 {H:List AObj} (vs:List AV) (xs:List PV) (h:Qmm H vs=some xs):FrzL (fun a=>a∈Qd5 H vs) H vs xs:=Q6f (fun v x h=>Qf5 Z1f v x h) vs xs h
end
end Go.Av
