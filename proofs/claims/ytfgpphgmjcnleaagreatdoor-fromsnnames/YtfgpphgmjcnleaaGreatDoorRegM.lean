/- Part of FromsnNames: the law returns true; no condition. -/
import Derived.Test.YtfgpphgmjcnleaaGreatDoorRegFoc
set_option linter.all false
namespace Go.Av
noncomputable section
section
variable {P:Program} {Gl:Nat->Option (List PV)}
theorem Q7f (R:Reg) (g:List (Nat×Nat)) (i:Nat) (k:List UInt8) (C:RCl) (j:Nat) (Q:Reg) (e:Nat):(Q41 R g i k C)[j]? ≠ some (AObj.ext Q e):=by
 match j with
 | 0=>intro h;cases h
 | 1=>intro h;cases h
 | 2=>intro h;cases h
 | 3=>intro h;cases h
 | 4=>intro h;cases h
 | 5=>intro h;cases h
 | j+6=>intro h;simp [Q41,Q5k] at h
theorem Q7b (R:Reg) (g:List (Nat×Nat)) (j:Nat) (Q:Reg) (e:Nat):(Xi R g)[j]? ≠ some (AObj.ext Q e):=by
 match j with
 | 0=>intro h;cases h
 | 1=>intro h;cases h
 | j+2=>intro h;simp [Xi] at h
def Q81 (R:Reg) (g:List (Nat×Nat)) (i:Nat) (k:List UInt8) (C':RCl) (H':List AObj):Prop:=
 ∃ ρ:Nat->Nat,H'[0]? = some (.cells [.map 1])∧H'[1]? = some (.map ((gm R g).set i (.str k,.ptr (ρ 0) 0)))∧Ren ρ 0 [] H' [] (Wd C')∧∀ j,j<4->2 ≤ ρ j
theorem Qos {R:Reg} {g:List (Nat×Nat)} (hg:g.length=R.length) {i:Nat} {k:List UInt8} {C C':RCl} (hi:R[i]? = some (k,C)):gm (R.set i (k,C')) g=gm R g:=by
 apply Mb;intro j
 by_cases hj:j<R.length
 ·have h1:=Q50 (R:=R.set i (k,C')) (g:=g) (by rw [Mn];exact hg) (j:=j) (q:=(R.set i (k,C'))[j]'(by rw [Mn];exact hj)) (Lc _);have h2:=Q50 hg (Lc hj);rw [h1,h2]
  by_cases e:i=j
  ·subst e;rw [Lc hj] at hi;have hi:=Am hi;simp [hi]
  rw [List.getElem_set_ne e]
 rw [Md (by rw [Q25 (by rw [Mn];exact hg),Mn];omega),Md (by rw [Q25 hg];omega)]
theorem Qne {f:Nat} {args:List PV} {r:PV} {R:Reg} {i:Nat} {k:List UInt8} {C C':RCl} (hok:Qd0 P f=true) (hr:Wf r=true) (hi:R[i]? = some (k,C))
  (h:∀ g:List (Nat×Nat),g.length=R.length->Q8 P Gl f (.ptr 0 0::args.map .p) (Q41 R g i k C) (fun v H'=>v = .p r∧Q81 R g i k C' H')):Ug P Gl f R args r (R.set i (k,C')):=by
 have hil:=(La.1 hi).1;refine Qdn hok hr fun w la fp hrep=>?_;obtain ⟨g,mt,ms,ft,fs,p⟩:=hrep.parts;obtain ⟨hci,hfi⟩:=p.cl i _ hi
 refine ⟨Q41 R g i k C,mF mt (ms i),by simp only [mF];rw [Af (by omega)];exact p.first,by simp [Q41],Qd4 p hi,Q7f R g i k C,Qo (h g p.len) fun v H' hv=>⟨hv.1,?_⟩⟩
 obtain ⟨_,ρ,e0,e1,hren,hρ⟩:=hv;intro w' θ' hH h0 _ hkeep;have hgs:=Qos (C':=C') p.len hi;refine Qdu (w:=w) (used:=fun c=>∃ i' l,mF mt (ms i) i'=some l∧l.blk=c) (fp:=fp) (i0:=i) (k:=k) (C':=C') (ρ := ρ) (ms:=ms)
  (fs:=fun j c=>fs j c∧∃ a l,ms j a=some l∧l.blk=c) (g:=g) (by rw [Mn];exact p.len) (Li hil) (fun j q hj hq=>?_) (fun a b c _ _ ha hb hne h1 h2=>?_) hkeep hH h0 e0 (by rw [hgs];exact e1) hren hρ
 ·rw [Lg (fun e=>hj e.symm)] at hq;obtain ⟨g1,g2⟩:=p.cl j q hq
  refine ⟨⟨⟨g1.lies.obj,fun a l ha=>⟨g1.lies.occ a l ha,a,l,ha,rfl⟩,g1.lies.fresh,g1.lies.dist⟩,g1.first⟩,fun c hc=>⟨(g2 c hc.1).1,?_⟩⟩
  rintro ⟨a,l,ha,hac⟩
  by_cases h2:a<2
  ·simp only [mF,Af h2] at ha;exact (g2 c hc.1).2 (hac▸p.top.occ a l ha)
  simp only [mF,Ae h2] at ha;exact p.dis j i c (La.1 hq).1 hil hj hc.1 (hac▸hci.lies.occ _ l ha)
 rw [Mn] at ha hb;exact p.dis a b c ha hb hne h1.1 h2.1
def Qhq (R:Reg) (g:List (Nat×Nat)) (k:List UInt8) (C':RCl) (H':List AObj):Prop:=
 ∃ ρ:Nat->Nat,H'[0]? = some (.cells [.map 1])∧H'[1]? = some (.map (gm R g ++ [(.str k,.ptr (ρ 0) 0)]))∧Ren ρ 0 [] H' [] (Wd C')∧∀ j,j<4->2 ≤ ρ j
theorem Qs6 {R:Reg} {g:List (Nat×Nat)} (hg:g.length=R.length) (k:List UInt8) (C':RCl) (x:PV×AV):(gm (R ++ [(k,C')]) (g ++ [(0,0)])).set R.length x=gm R g ++ [x]:=by
 unfold gm;rw [List.zip_append hg.symm,Ct];have:((R.zip g).map fun q=>((PV.str q.1.1,AV.gptr q.2.1 q.2.2):PV×AV)).length=R.length:=Q25 hg;rw [List.set_append_right _ _ (by omega),this,Bw];rfl
theorem Qmv {f:Nat} {args:List PV} {r:PV} {R:Reg} {k:List UInt8} {C':RCl} (hok:Qd0 P f=true) (hr:Wf r=true)
  (h:∀ g:List (Nat×Nat),g.length=R.length->Q8 P Gl f (.ptr 0 0::args.map .p) (Xi R g) (fun v H'=>v = .p r∧Qhq R g k C' H')):Ug P Gl f R args r (R ++ [(k,C')]):=by
 refine Qdn hok hr fun w la fp hrep=>?_;obtain ⟨g,mt,ms,ft,fs,p⟩:=hrep.parts
 refine ⟨Xi R g,mt,p.first,by simp [Xi],⟨p.top.obj,fun i l hl=>p.fpt _ (p.top.occ i l hl),p.top.fresh,p.top.dist⟩,Q7b R g,Qo (h g p.len) fun v H' hv=>⟨hv.1,?_⟩⟩
 obtain ⟨_,ρ,e0,e1,hren,hρ⟩:=hv;intro w' θ' hH h0 _ hkeep;refine Qdu (w:=w) (used:=fun c=>∃ i' l,mt i'=some l∧l.blk=c) (fp:=fp) (i0:=R.length) (k:=k) (C':=C') (ρ := ρ) (ms:=ms)
  (fs:=fs) (g:=g ++ [(0,0)]) (by simp [p.len]) (by simp) (fun j q hj hq=>?_) (fun a b c hane hbne ha hb hne h1 h2=>?_) hkeep hH h0 e0 (by rw [Qs6 p.len];exact e1) hren hρ
 ·have hjl:j<R.length:=by
   have:=(La.1 hq).1;simp at this;omega
  rw [Lh hjl] at hq;obtain ⟨g1,g2⟩:=p.cl j q hq
  have hgd:(g ++ [(0,0)]).getD j (0,0)=g.getD j (0,0):=by
   rw [Le,Le,Lh (by rw [p.len];exact hjl)]
  rw [hgd];exact ⟨g1,fun c hc=>⟨(g2 c hc).1,fun ⟨a,l,ha,hac⟩=>(g2 c hc).2 (hac▸p.top.occ a l ha)⟩⟩
 simp at ha hb;exact p.dis a b c (by omega) (by omega) hne h1 h2
theorem Qnt {f:Nat} {args:List PV} {r:PV} {R:Reg} (hok:Qd0 P f=true) (hr:Wf r=true)
  (h:∀ g:List (Nat×Nat),g.length=R.length->Q8 P Gl f (.ptr 0 0::args.map .p) (Xi R g) (fun v H'=>v = .p r∧H'[0]? = some (.cells [.map 1])∧H'[1]? = some (.map (gm R g)))):Ug P Gl f R args r R:=by
 refine Qdn hok hr fun w la fp hrep=>?_;obtain ⟨g,mt,ms,ft,fs,p⟩:=hrep.parts
 refine ⟨Xi R g,mt,p.first,by simp [Xi],⟨p.top.obj,fun i l hl=>p.fpt _ (p.top.occ i l hl),p.top.fresh,p.top.dist⟩,Q7b R g,Qo (h g p.len) fun v H' hv=>⟨hv.1,?_⟩⟩
 obtain ⟨_,e0,e1⟩:=hv;intro w' θ' hH h0 _ hkeep;have r0:=hH.obj 0 _ la e0 h0
 obtain ⟨l1,hl1⟩:∃ l1,θ' 1=some l1:=by
  obtain ⟨C,t,fz,q1,q2,q3,q4,q5⟩:=r0;have:=(q5 0 (.map 1) rfl).1;generalize C.getD (la.off+0) Qc=vv at this
  cases this with
  | map _ l hl=>exact ⟨l,hl⟩
 have r1:=hH.obj 1 _ l1 e1 hl1
 let mt':Nat->Option Loc:=fun i=>if i=0 then some la else if i=1 then some l1 else none
 let ft':Nat->Prop:=fun c=>c=la.blk∨c=l1.blk
 have occ01:∀ c,ft' c->¬ NL θ' H' c:=fun c hc hn=>by
  rcases hc with rfl | rfl
  ·exact hn 0 _ la e0 rfl h0 rfl
  exact hn 1 _ l1 e1 rfl hl1 rfl
 have key:∀ i l,mt' i=some l->(i=0∧l=la)∨(i=1∧l=l1):=fun i l h=>by
  by_cases h0:i=0
  ·subst h0;exact .inl ⟨rfl,by simpa [mt'] using h.symm⟩
  by_cases h1:i=1
  ·subst h1;exact .inr ⟨rfl,by simpa [mt'] using h.symm⟩
  simp [mt',h0,h1] at h
 refine ⟨g,mt',ms,ft',fs,p.len,rfl,⟨fun i o l hio hl=>?_,fun i l hl=>?_,fun i hlen=>?_,fun i j li lj h1 h2 hne e=>?_⟩,fun c hc => .inr (occ01 c hc),fun i q hq=>?_,p.dis⟩
 ·rcases key i l hl with ⟨rfl,rfl⟩ | ⟨rfl,rfl⟩
  ·cases hio;obtain ⟨C,t,fz,q1,q2,q3,q4,q5⟩:=r0;refine ⟨C,t,fz,q1,q2,q3,q4,fun j v hj=>?_⟩
   match j,hj with
   | 0,hj=>
    cases hj;refine ⟨?_,(q5 0 (.map 1) rfl).2⟩;have:=(q5 0 (.map 1) rfl).1;generalize C.getD (l.off+0) Qc=vv at this
    cases this with
    | map _ l2 hl2=>
     rw [hl1] at hl2;cases hl2;exact .map 1 l1 (by simp [Q4u,mt'])
   | j+1,hj=>simp at hj
  have ho:o = .map (gm R g):=(Am hio).symm;subst ho;obtain ⟨E,clk,q1,q2,q4,q3⟩:=r1;refine ⟨E,clk,q1,q2,q4,fun x kk v hx=>?_⟩
  have hxl:x<R.length:=by have:=(La.1 hx).1;rwa [Q25 p.len] at this
  have hx':=Q50 p.len (Lc hxl);obtain ⟨s1,s2⟩:=q3 x kk v hx;rw [hx] at hx';cases hx';exact ⟨J5 (.str _) _ rfl s1,by generalize (E.getD x default).val=vv at s2;cases s2;exact .gptr _ _⟩
 ·rcases key i l hl with ⟨rfl,rfl⟩ | ⟨rfl,rfl⟩
  ·exact .inl rfl
  exact .inr rfl
 ·have:2≤i:=hlen;simp only [mt'];rw [Ae (by omega),Ae (by omega)]
 ·have hd:=hH.dist 0 1 _ _ la l1 e0 e1 rfl rfl h0 hl1 (by omega)
  rcases key i li h1 with ⟨rfl,rfl⟩ | ⟨rfl,rfl⟩<;>rcases key j lj h2 with ⟨rfl,rfl⟩ | ⟨rfl,rfl⟩
  ·exact hne rfl
  ·exact hd _ rfl e.symm
  ·exact hd _ rfl e
  exact hne rfl
 obtain ⟨g1,g2⟩:=p.cl i q hq;have nu:∀ c,fs i c->¬ ∃ i' l,mt i'=some l∧l.blk=c:=fun c hc ⟨a,l,ha,hac⟩=>(g2 c hc).2 (hac▸p.top.occ a l ha)
 exact ⟨⟨g1.lies.mono fun c hc=>⟨hc,(hkeep c (g2 c hc).1 (nu c hc)).1⟩,g1.first⟩,fun c hc=>⟨.inl (g2 c hc).1,fun ht=>occ01 c ht (hkeep c (g2 c hc).1 (nu c hc)).2⟩⟩
end
end
end Go.Av
