/- Part of the proof of FrommqttVersions: for every input the law returns true; no condition. -/
import Derived.Test.YteblaejaahpnaaaGreatDoorAvMeth
import Derived.Test.YteblaejaahpnaaaGreatDoorAvFreeze
import Derived.Test.YteblaejaahpnaaaGreatDoorAvDraws
set_option linter.all false
namespace Go.Av
noncomputable section
mutual
def Q3p:PV→Bool
 | .bool _=>true
 | .int _ _=>true
 | .str _=>true
 | .nilPtr=>true
 | .nilSlice=>true
 | .nilMap=>true
 | .nilFunc=>true
 | .nilIface=>true
 | .slice _ []=>true
 | .agg cs=>Q9a cs
 | .tuple cs=>Q9a cs
 | _=>false
def Q9a:List PV→Bool
 | []=>true
 | x::xs=>Q3p x&&Q9a xs
end
mutual
theorem Qgq {S S':Nat→Prop} {w w':World}:∀ (x:PV) (v:Value),Q3p x=true→RelP S w x v→RelP S' w' x v
 | .bool _,_,_,h=>by cases h;exact .bool _
 | .int _ _,_,_,h=>by cases h;exact .int _ _
 | .str _,_,_,h=>by cases h;exact .str _
 | .nilPtr,_,_,h=>by cases h;exact .nilPtr
 | .nilSlice,_,_,h=>by cases h;exact .nilSlice
 | .nilMap,_,_,h=>by cases h;exact .nilMap
 | .nilFunc,_,_,h=>by cases h;exact .nilFunc
 | .nilIface,_,_,h=>by cases h;exact .nilIface
 | .slice e [],_,_,h=>by
  cases h with
  | sliceE _ a c hn=>exact .sliceE e a c hn
  | slice _ _ blk off cap val he hr hcap hS hc h1 hv=>exact .sliceE e _ cap (fun h=>by cases h)
 | .slice _ (_::_),_,h,_=>by simp [Q3p] at h
 | .pmap _,_,h,_=>by simp [Q3p] at h
 | .func _ _ _,_,h,_=>by simp [Q3p] at h
 | .iface _ _,_,h,_=>by simp [Q3p] at h
 | .agg cs,_,hf,h=>by
  simp only [Q3p] at hf
  cases h with
  | agg _ C hn h1 hv=>exact .agg cs C hn h1 (Qa8 cs hf (fun i=>C.getD i Qy) hv)
 | .tuple cs,_,hf,h=>by
  simp only [Q3p] at hf
  cases h with
  | tuple _ C hn hv=>exact .tuple cs C hn (Qa8 cs hf (fun i=>C.getD i Qy) hv)
theorem Qa8 {S S':Nat→Prop} {w w':World}:∀ (xs:List PV),Q9a xs=true→∀ (g:Nat→Value),(∀ (i:Nat) x,xs[i]? = some x→RelP S w x (g i))→∀ (i:Nat) x,xs[i]? = some x→RelP S' w' x (g i)
 | [],_,_,_,i,x,hx=>by simp at hx
 | y::xs,hf,g,h,i,x,hx=>by
  simp only [Q9a,Lb] at hf
  cases i with
  | zero=>simp at hx;subst hx;exact Qgq y _ hf.1 (h 0 y rfl)
  | succ i=>exact Qa8 xs hf.2 (fun i=>g (i+1)) (fun i x hx=>h (i+1) x (by simpa using hx)) i x (by simpa using hx)
end

section
variable {P:Program} {Gl:Nat→Option (List PV)}
theorem Qda {f:Nat} {args:List AV} {pargs:List PV} {r:PV} {H:List AObj} {Q:AV→List AObj→Prop} (hp:Qg6 P Gl f pargs r) (hf:FrzL (fun _=>True) H args pargs) (hr:Q3p r=true) (hq:Q (.p r) H):Xf P Gl f args H Q:=by
 refine ⟨hp.1,fun θ w cargs ha hH hG=>?_⟩;obtain ⟨a1,a2⟩:=Q9h (S:=fun c=>¬ θ.bad c) hH (fun c h=>h.1) (fun a o l _ ho hl hθ hb=>hH.good a o l ho hl hθ hb) hf ha;refine (hp.2 θ.bad w cargs hH.badlt a1 a2 (Q9z hG (fun c _ hf=>hf.1))).mono ?_
 rintro e w' ⟨cr,rfl,q1,q2⟩
 obtain ⟨h1,h2⟩:=Q5x hH q2;exact ⟨_,cr,H,θ,rfl,hq,.p _ _ (Qgq r cr hr q1),h1,h2⟩
end

theorem Qgx {θ:Th} {w:World}:∀ (R:List Nat) {H:List AObj},Hp θ H w→Hp θ (Ge (R.map fun a=>(a,.dead)) H) w∧EvoS θ H w θ (Ge (R.map fun a=>(a,.dead)) H) w ∧
  (∀ a∈R,a<H.length→(Ge (R.map fun a=>(a,.dead)) H)[a]? = some .dead)∧(∀ (a:Nat) (o:AObj),(Ge (R.map fun a=>(a,.dead)) H)[a]? = some o→o.live=true→H[a]? = some o)
 | [],H,h=>⟨h,.refl _ _ _,fun a ha=>by simp at ha,fun a o ha _=>ha⟩
 | b::R,H,h=>by
  have Qr:Hp θ (H.set b .dead) w∧EvoS θ H w θ (H.set b .dead) w:=by
   cases hb:H[b]? with
   | none=>
    have:H.set b .dead=H:=by
     apply List.set_eq_of_length_le;exact List.getElem?_eq_none_iff.1 hb
    rw [this];exact ⟨h,.refl _ _ _⟩
   | some o=>
    by_cases ho:o.live=true
    ·obtain ⟨k1,k2⟩:=Qc1 h hb ho;exact ⟨k1,k2,by simp,fun _ _=>rfl⟩
    have ho:o = .dead:=by cases o<;>simp [AObj.live] at ho;rfl
    subst ho;have hlt:=(La.1 hb).1
    have:H.set b .dead=H:=by
     apply Mr ;intro i
     by_cases hi:b=i
     ·subst hi;rw [Lo hlt,hb]
     rw [Lj hi]
    rw [this];exact ⟨h,.refl _ _ _⟩
  obtain ⟨s1,s2⟩:=Qr;obtain ⟨k1,k2,k3,k4⟩:=Qgx R s1
  have keep:∀ (L:List Nat) (G:List AObj) (a:Nat),G[a]? = some .dead→(Ge (L.map fun a=>(a,AObj.dead)) G)[a]? = some .dead:=by
   intro L
   induction L with
   | nil=>intro G a ha;exact ha
   | cons c L ih=>
    intro G a ha;refine ih (G.set c .dead) a ?_
    by_cases hc:c=a
    ·subst hc;rw [Lo (La.1 ha).1]
    rw [Lj hc];exact ha
  refine ⟨k1,s2.trans k2,fun a ha hlt=>?_,fun a o ha ho=>?_⟩
  ·rcases Mi.1 ha with rfl | ha
   ·exact keep R (H.set a .dead) a (by rw [Lo hlt])
   exact k3 a ha (by simpa using hlt)
  have h1:=k4 a o ha ho
  by_cases hb:b=a
  ·subst hb;rw [Bd] at h1;simp at h1;obtain ⟨_,rfl⟩:=h1;simp [AObj.live] at ho
  rwa [Lj hb] at h1
theorem Qjp {P:Program} {Gl:Nat→Option (List PV)} {f:Nat} {args:List AV} {pargs:List PV} {r:PV} {H:List AObj} {Q:AV→List AObj→Prop} (R:List Nat) (hp:Qg6 P Gl f pargs r) (hf:FrzL (fun a=>a∈R) H args pargs)
  (hR:∀ a∈R,a<H.length) (hq:Q (.p r) (Ge (R.map fun a=>(a,.dead)) H)):Xf P Gl f args H Q:=by
 refine ⟨hp.1,fun θ w cargs ha hH hG=>?_⟩;obtain ⟨k1,k2,k3,k4⟩:=Qgx R hH;generalize hK:Ge (R.map fun a=>(a,AObj.dead)) H=K at k1 k2 k3 k4 hq;have hfree:∀ c,Qq θ H c→Qq θ K c:=fun c hc=>⟨hc.1,fun a o l h1 h2 h3=>hc.2 a o l (k4 a o h1 h2) h2 h3⟩
 obtain ⟨a1,a2⟩:=Q9h (S:=Qq θ K) hH (fun c h=>hfree c h) (fun a o l hk ho hl hθ c hc=>⟨hH.good a o l ho hl hθ c hc,fun b ob lb h1 h2 h3 e=>by
  have h4:=k4 b ob h1 h2
  by_cases hab:a=b
  ·subst hab;have:=k3 a hk (hR a hk);rw [this] at h1;cases h1;simp [AObj.live] at h2
  exact hH.dist a b o ob l lb ho h4 hl h2 hθ h3 hab c hc e⟩) hf ha
 have hbad:∀ c,c<w.heap.size→Qq θ K c→¬ (c<w.heap.size∧¬ Qq θ K c):=fun c _ h h'=>h'.2 h;have hGK:=hG.evo k2.toEvo;refine (hp.2 (fun c=>c<w.heap.size∧¬ Qq θ K c) w cargs (fun c h=>h.1) a1 (fun i x hx=>(a2 i x hx).mono (fun c _ hfr=>⟨fun h=>h.2 hfr,rfl⟩)) (Q9z hGK hbad)).mono ?_
 rintro e w' ⟨cr,rfl,q1,q2⟩
 obtain ⟨h1,h2⟩:=Q5x k1 q2;refine ⟨_,cr,K,θ,rfl,hq,.p _ _ (q1.mono (fun c hc hn=>⟨?_,rfl⟩)),h1,k2.trans h2⟩
 by_cases hlt:c<w.heap.size
 ·exact Mb fun hfr=>hn ⟨hlt,hfr⟩
 refine ⟨fun hb=>hlt (k1.badlt c hb),fun a o l ha hl hθ e=>?_⟩;have:=(k1.obj a o l ha hθ).lt hl c e;omega
theorem Qis {P:Program} {Gl:Nat→Option (List PV)} {f:Nat} {args:List AV} {pargs:List PV} {r:PV} {H:List AObj} {k:AV→List AObj→List Nat→List Nat→Prop} (R:List Nat) (hp:Qg6 P Gl f pargs r) (hf:FrzL (fun a=>a∈R) H args pargs)
  (hR:∀ a∈R,a<H.length) (hk:k (.p r) (Ge (R.map fun a=>(a,.dead)) H) R R):Vh P Gl f args H k:=by
 refine .inl ⟨R,R.map fun a=>(a,.dead),.p r,fun s hs=>?_,fun H2 hH2=>?_,?_⟩
 rotate_left 2
 ·have e:(R.map fun a=>(a,AObj.dead)).map (·.1)=R:=by rw [List.map_map];exact List.map_id' R
  rw [e];exact hk
 ·obtain ⟨a,ha,rfl⟩:=Nb.1 hs;exact hR a ha
 refine Qjp R hp (hf.K (fun a o h1 h2=>⟨h1,hH2 a h1 o h2⟩)) (fun a ha=>?_) ⟨rfl,rfl⟩;have h1:=hR a ha;have:H2[a]? = some H[a]:=hH2 a ha _ (Ld h1);exact (La.1 this).1
def Qp5:Nat:=40
def Qc4 (H:List AObj) (vs:List AV):Option (List PV):=Qjj (Qi1 Qp5 H) vs
def Q52 (H:List AObj) (vs:List AV):List Nat:=vs.flatMap (Gg Qp5 H)
theorem Q1n {H:List AObj} (vs:List AV) (xs:List PV) (h:Qc4 H vs=some xs):FrzL (fun a=>a∈Q52 H vs) H vs xs:=Gx (fun v x h=>Q6r Qp5 v x h) vs xs h
end
end Go.Av
