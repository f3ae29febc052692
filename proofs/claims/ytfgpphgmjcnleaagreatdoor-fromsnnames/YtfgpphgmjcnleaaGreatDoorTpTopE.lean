/- Part of FromsnNames: the law returns true; no condition. -/
import Derived.Test.YtfgpphgmjcnleaaGreatDoorTpTopD
set_option linter.all false
namespace Go.Av.Tp
open Go Go.Proofs
attribute [local irreducible] Vw Qv Q8 Q3g Q27 Q6
set_option maxHeartbeats 1000000
variable {Gl:Nat->Option (List PV)}
section
variable {R:Reg} {c:List UInt8} {i:Nat} {C:RCl}
theorem Qn2 (R:Reg) (g:List (Nat×Nat)) (i:Nat) (k:List UInt8) (C:RCl) (j:Nat) (o:AObj) (h:(Q41 R g i k C)[j]? = some o):o.live=true:=by
 match j with
 | 0=>cases h;rfl
 | 1=>cases h;rfl
 | 2=>cases h;rfl
 | 3=>cases h;rfl
 | 4=>cases h;rfl
 | 5=>cases h;rfl
 | j+6=>simp [Q41,Q5k] at h
theorem Qns (R:Reg) (g:List (Nat×Nat)) (j:Nat) (o:AObj) (h:(Xi R g)[j]? = some o):o.live=true:=by
 match j with
 | 0=>cases h;rfl
 | 1=>cases h;rfl
 | j+2=>simp [Xi] at h
theorem Qio (h:Ya c 0 R=some (i,C)) (hT:C.all.length≤1000000000):Qt1 Tryz.prog Gl 51 R [.str c] (fun T=>T.Perm C.all∧T.Pairwise (fun a b=>a.1≤b.1)):=by
 refine Qma (by kernel_rfl) fun w la fp hrep=>?_;obtain ⟨g,mt,ms,ft,fs,p⟩:=hrep.parts;have hi:=(Gh R 0 i C h).2;rw [Cr] at hi;have hil:=(La.1 hi).1;have hRs:R.set i (c,C)=R:=Qhr hi;obtain ⟨hci,hfi⟩:=p.cl i _ hi
 refine ⟨Q41 R g i c C,mF mt (ms i),by simp only [mF];rw [Af (by omega)];exact p.first,by simp [Q41],Qd4 p hi,Q7f R g i c C,Qn2 R g i c C,fun more=>?_,Qo (Qer p.len h hT) fun v H' hv=>?_⟩
 ·obtain ⟨ρ,e0,e1,hren,hρ⟩:=Ym (R:=R) (g:=g) (i:=i) (k:=c) (C':=C) (H':=Q41 R g i c C++more) more rfl;intro w' θ' hH h0 _ hkeep;have hgs:=Qos (C':=C) p.len hi;have:=Qdu (w:=w) (used:=fun c=>∃ i' l,mF mt (ms i) i'=some l∧l.blk=c) (fp:=fp) (i0:=i) (k:=c) (C':=C) (ρ := ρ) (ms:=ms) (R':=R.set i (c,C))
   (fs:=fun j c=>fs j c∧∃ a l,ms j a=some l∧l.blk=c) (g:=g) (by rw [Mn];exact p.len) (Li hil) (fun j q hj hq=>?_) (fun a b c _ _ ha hb hne h1 h2=>?_) hkeep hH h0 e0 (by rw [hgs];exact e1) hren hρ
  ·rw [hRs] at this;exact this
  ·rw [Lg (fun e=>hj e.symm)] at hq;obtain ⟨g1,g2⟩:=p.cl j q hq
   refine ⟨⟨⟨g1.lies.obj,fun a l ha=>⟨g1.lies.occ a l ha,a,l,ha,rfl⟩,g1.lies.fresh,g1.lies.dist⟩,g1.first⟩,fun c hc=>⟨(g2 c hc.1).1,?_⟩⟩
   rintro ⟨a,l,ha,hac⟩
   by_cases h2:a<2
   ·simp only [mF,Af h2] at ha;exact (g2 c hc.1).2 (hac▸p.top.occ a l ha)
   simp only [mF,Ae h2] at ha;exact p.dis j i c (La.1 hq).1 hil hj hc.1 (hac▸hci.lies.occ _ l ha)
  rw [Mn] at ha hb;exact p.dis a b c ha hb hne h1.1 h2.1
 obtain ⟨T',hp,hs,⟨rfl,rfl,rfl⟩ | ⟨hne,rfl,rfl⟩⟩:=hv
 ·exact ⟨[],_,⟨hp,hs⟩,rfl,.inl ⟨rfl,rfl⟩⟩
 exact ⟨T',[.cells [.map 4],.cells (T'.flatMap Q6c)],⟨hp,hs⟩,rfl,.inr ⟨hne,1,rfl,rfl⟩⟩
theorem Qin {g:List (Nat×Nat)} (hg:g.length=R.length) (h:Ya c 0 R=none):Q8 Tryz.prog Gl 51 [.ptr 0 0,.p (.str c)] (Xi R g) (fun v H'=>v = .p .nilSlice∧H'=Xi R g):=by
 refine Q3 k51 ?_;refine (Q3 k27 ?_:Q8 Tryz.prog Gl 27 _ _ _);refine Y4 (W7 R g 0 h) ?_;exact ⟨rfl,rfl⟩
theorem Qgi (h:Ya c 0 R=none):Qt1 Tryz.prog Gl 51 R [.str c] (fun T=>T = []):=by
 refine Qma (by kernel_rfl) fun w la fp hrep=>?_;obtain ⟨g,mt,ms,ft,fs,p⟩:=hrep.parts
 refine ⟨Xi R g,mt,p.first,by simp [Xi],⟨p.top.obj,fun i l hl=>p.fpt _ (p.top.occ i l hl),p.top.fresh,p.top.dist⟩,Q7b R g,Qns R g,fun more=>?_,Qo (Qin p.len h) fun v H' hv=>?_⟩
 rotate_left
 ·obtain ⟨rfl,rfl⟩:=hv;exact ⟨[],[],rfl,by simp,.inl ⟨rfl,rfl⟩⟩
 have e0:(Xi R g++more)[0]? = some (.cells [.map 1]):=rfl;have e1:(Xi R g++more)[1]? = some (.map (gm R g)):=rfl;generalize Xi R g++more=H' at e0 e1;intro w' θ' hH h0 _ hkeep;have r0:=hH.obj 0 _ la e0 h0
 obtain ⟨l1,hl1⟩:∃ l1,θ' 1=some l1:=by
  obtain ⟨C,t,fz,q1,q2,q3,q4,q5⟩:=r0;have:=(q5 0 (.map 1) rfl).1;generalize C.getD (la.off+0) Qc=vv at this
  cases this with
  | map _ l hl=>exact ⟨l,hl⟩
 have r1:=hH.obj 1 _ l1 e1 hl1
 let mt':Nat->Option Loc:=fun i=>if i=0 then some la else if i=1 then some l1 else none
 let ft':Nat->Prop:=fun c=>c=la.blk∨c=l1.blk
 have occ01:∀ c,ft' c->¬ NL θ' H' c:=fun c hc hn=>by
  rcases hc with rfl | rfl
  ·exact hn 0 _ la e0 rfl h0 rfl
  exact hn 1 _ l1 e1 rfl hl1 rfl
 have key:∀ i l,mt' i=some l->(i=0∧l=la)∨(i=1∧l=l1):=fun i l h=>by
  by_cases h0:i=0
  ·subst h0;exact .inl ⟨rfl,by simpa [mt'] using h.symm⟩
  by_cases h1:i=1
  ·subst h1;exact .inr ⟨rfl,by simpa [mt'] using h.symm⟩
  simp [mt',h0,h1] at h
 refine ⟨g,mt',ms,ft',fs,p.len,rfl,⟨fun i o l hio hl=>?_,fun i l hl=>?_,fun i hlen=>?_,fun i j li lj h1 h2 hne e=>?_⟩,fun c hc => .inr (occ01 c hc),fun i q hq=>?_,p.dis⟩
 ·rcases key i l hl with ⟨rfl,rfl⟩ | ⟨rfl,rfl⟩
  ·cases hio;obtain ⟨C,t,fz,q1,q2,q3,q4,q5⟩:=r0;refine ⟨C,t,fz,q1,q2,q3,q4,fun j v hj=>?_⟩
   match j,hj with
   | 0,hj=>
    cases hj;refine ⟨?_,(q5 0 (.map 1) rfl).2⟩;have:=(q5 0 (.map 1) rfl).1;generalize C.getD (l.off+0) Qc=vv at this
    cases this with
    | map _ l2 hl2=>
     rw [hl1] at hl2;cases hl2;exact .map 1 l1 (by simp [Q4u,mt'])
   | j+1,hj=>simp at hj
  have ho:o = .map (gm R g):=(Am hio).symm;subst ho;obtain ⟨E,clk,q1,q2,q4,q3⟩:=r1;refine ⟨E,clk,q1,q2,q4,fun x kk v hx=>?_⟩
  have hxl:x<R.length:=by have:=(La.1 hx).1;rwa [Q25 p.len] at this
  have hx':=Q50 p.len (Lc hxl);obtain ⟨s1,s2⟩:=q3 x kk v hx;rw [hx] at hx';cases hx';exact ⟨J5 (.str _) _ rfl s1,by generalize (E.getD x default).val=vv at s2;cases s2;exact .gptr _ _⟩
 ·rcases key i l hl with ⟨rfl,rfl⟩ | ⟨rfl,rfl⟩
  ·exact .inl rfl
  exact .inr rfl
 ·have:2≤i:=hlen;simp only [mt'];rw [Ae (by omega),Ae (by omega)]
 ·have hd:=hH.dist 0 1 _ _ la l1 e0 e1 rfl rfl h0 hl1 (by omega)
  rcases key i li h1 with ⟨rfl,rfl⟩ | ⟨rfl,rfl⟩<;>rcases key j lj h2 with ⟨rfl,rfl⟩ | ⟨rfl,rfl⟩
  ·exact hne rfl
  ·exact hd _ rfl e.symm
  ·exact hd _ rfl e
  exact hne rfl
 obtain ⟨g1,g2⟩:=p.cl i q hq;have nu:∀ c,fs i c->¬ ∃ i' l,mt i'=some l∧l.blk=c:=fun c hc ⟨a,l,ha,hac⟩=>(g2 c hc).2 (hac▸p.top.occ a l ha)
 exact ⟨⟨g1.lies.mono fun c hc=>⟨hc,(hkeep c (g2 c hc).1 (nu c hc)).1⟩,g1.first⟩,fun c hc=>⟨.inl (g2 c hc).1,fun ht=>occ01 c ht (hkeep c (g2 c hc).1 (nu c hc)).2⟩⟩
theorem Qj9 (hT:∀ i C,Ya c 0 R=some (i,C)->C.all.length≤1000000000):Qt1 Tryz.prog Gl 51 R [.str c] (fun T=>T.Perm (match Ya c 0 R with | none => [] | some q=>q.2.all)∧T.Pairwise (fun a b=>a.1≤b.1)):=by
 cases h:Ya c 0 R with
 | none=>
  intro H b a hb vs hvs;exact Qo (Qgi h H b a hb vs hvs) fun v H' ⟨T,hq,r⟩=>⟨T,by subst hq;exact ⟨.refl _,.nil⟩,r⟩
 | some q=>obtain ⟨i,C⟩:=q;exact Qio h (hT i C h)
end
end Go.Av.Tp
namespace Go.Av.Tp
open Go Go.Proofs
variable {Gl:Nat->Option (List PV)}
section
variable {R:Reg} {c:List UInt8}
theorem Q9f:∀ (l m:List RTp),l.Perm m->l.Pairwise (fun a b=>a.1≤b.1)->m.Pairwise (fun a b=>a.1≤b.1)->(l.map (·.1)).Nodup->l=m
 | [],m,h,_,_,_=>(List.nil_perm.1 h).symm
 | a::l,[],h,_,_,_=>by have:=h.length_eq;cases this
 | a::l,b::m,h,h1,h2,hn=>by
  have hb:b∈a::l:=h.mem_iff.2 (.head _);have ha:a∈b::m:=h.mem_iff.1 (.head _)
  have e1:a.1≤b.1:=by
   rcases Mp.1 hb with e | e
   ·rw [e];exact Int.le_refl _
   exact (Bd.1 h1).1 b e
  have e2:b.1≤a.1:=by
   rcases Mp.1 ha with e | e
   ·rw [e];exact Int.le_refl _
   exact (Bd.1 h2).1 a e
  have e:a=b:=Qg1 hn (.head _) hb (Int.le_antisymm e1 e2);subst e;rw [Q9f l m h.cons_inv (Bd.1 h1).2 (Bd.1 h2).2 (List.nodup_cons.1 hn).2]
def Qiz (t:RTp):List RTp->List RTp
 | [] => [t]
 | u::l=>if t.1≤u.1 then t::u::l else u::Qiz t l
def Q8a:List RTp->List RTp
 | [] => []
 | t::l=>Qiz t (Q8a l)
theorem Q7c (t:RTp):∀ l:List RTp,(Qiz t l).Perm (t::l)
 | [] => .refl _
 | u::l=>by
  unfold Qiz;split
  ·exact .refl _
  exact ((Q7c t l).cons u).trans (.swap t u l)
theorem Q5c:∀ l:List RTp,(Q8a l).Perm l
 | [] => .refl _
 | t::l=>(Q7c t (Q8a l)).trans ((Q5c l).cons t)
theorem Q84 (t:RTp):∀ l:List RTp,l.Pairwise (fun a b=>a.1≤b.1)->(Qiz t l).Pairwise (fun a b=>a.1≤b.1)
 | [],_ => .cons (fun _ h=>by cases h) .nil
 | u::l,h=>by
  unfold Qiz;obtain ⟨h1,h2⟩:=Bd.1 h;split
  ·rename_i g;refine .cons (fun x hx=>?_) h
   rcases Mp.1 hx with e | e
   ·rw [e];exact g
   exact Int.le_trans g (h1 x e)
  rename_i g;refine .cons (fun x hx=>?_) (Q84 t l h2)
  rcases Mp.1 ((Q7c t l).mem_iff.1 hx) with e | e
  ·rw [e];omega
  exact h1 x e
theorem Q2h:∀ l:List RTp,(Q8a l).Pairwise (fun a b=>a.1≤b.1)
 | [] => .nil
 | t::l=>Q84 t _ (Q2h l)
def Qt5 (R:Reg) (c:List UInt8):List RTp:=match Ya c 0 R with | none => [] | some q=>q.2.all
def rTopics (R:Reg) (c:List UInt8):List RTp:=Q8a (Qt5 R c)
def okAll (R:Reg) (c:List UInt8):Bool:=decide ((Qt5 R c).length≤1000000000∧((Qt5 R c).map (·.1)).Nodup)
theorem topics_reg (h:okAll R c=true):Ug Tryz.prog Gl 51 R [.str c] (.slice 3 (Qg topC (rTopics R c))) R:=by
 obtain ⟨h1,h2⟩:=Aa h;intro H b a hb vs hvs;refine Qo (Qj9 (R:=R) (c:=c) (fun i C hf=>by rw [Qt5,hf] at h1;exact h1) H b a hb vs hvs) ?_
 rintro v H' ⟨T,⟨hp,hs⟩,rfl,rfl⟩
 have e:T=rTopics R c:=Q9f _ _ (hp.trans (Q5c _).symm) hs (Q2h _) ((hp.map (·.1)).nodup_iff.2 h2);rw [e];exact ⟨rfl,rfl⟩
end
end Go.Av.Tp
