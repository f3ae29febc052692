/- Part of FromsnNames: the law returns true; no condition. -/
import Derived.Test.YtfgpphgmjcnleaaGreatDoorRegM
set_option linter.all false
namespace Go.Av
noncomputable section
section
variable {P:Program} {Gl:Nat->Option (List PV)}
def Qhl (P:Program) (Gl:Nat->Option (List PV)) (f:Nat):Prop:=
 ∀ H:List AObj,Q8 P Gl f [] H (fun v H'=>v = .ptr H.length 0∧H'=H ++ [.dead,.ext [] H.length])
theorem Qm5 {f:Nat} (hok:Qd0 P f=true)
  (hc:Q8 P Gl f [] [] (fun v H'=>∃ i j,v = .ptr j 0∧H'[j]? = some (.cells [.map i])∧H'[i]? = some (.map [])∧i≠j)):Qhl P Gl f:=by
 intro H;refine ⟨hok,fun θ w cargs hargs hH hG=>?_⟩
 let bad0:Nat->Prop:=fun c=>c<w.heap.size∧¬ Qe θ H c
 let θ0:Th:=⟨fun _=>none,bad0⟩
 have hH0:Hp θ0 [] w:=Qoy w bad0 (fun c h=>h.1);have hfree:∀ c,Qe θ H c->Qe θ0 [] c:=fun c hf=>⟨fun hb=>hb.2 hf,fun a o l h=>by simp at h⟩
 have hG0:GlobOK Gl θ0 [] w:=by
  intro g cs hg;obtain ⟨g1,g2,vs',g3,g4,g5⟩:=hG g cs hg;exact ⟨g1,hfree g g2,vs',g3,g4,fun j x hx=>⟨(g5 j x hx).1,(g5 j x hx).2.mono (fun c _ hf=>⟨hfree c hf,rfl⟩)⟩⟩
 refine (hc.2 θ0 w cargs ⟨by rw [hargs.1],fun i v hv=>by simp at hv⟩ hH0 hG0).mono ?_
 rintro e w' ⟨v,cr,H',θ',rfl,⟨i,j,rfl,ej,ei,hij⟩,q2,q3,q4⟩
 obtain ⟨la,hla,hcr⟩:∃ l,θ' j=some l∧cr = .pointer (some ⟨l.blk,l.off+0,none⟩):=by
  cases q2 with
  | ptr _ _ l hl=>exact ⟨l,hl,rfl⟩
 have r0:=q3.obj j _ la ej hla
 obtain ⟨l1,hl1⟩:∃ l1,θ' i=some l1:=by
  obtain ⟨C,t,fz,p1,p2,p3,p4,p5⟩:=r0;have:=(p5 0 (.map i) rfl).1;generalize C.getD (la.off+0) Qc=vv at this
  cases this with
  | map _ l hl=>exact ⟨l,hl⟩
 have r1:=q3.obj i _ l1 ei hl1;have hnl:∀ c,c<w.heap.size->NL θ' H' c∧w'.heap[c]? = w.heap[c]? := fun c hc=>q4.nl c hc (fun a o l h=>by simp at h);have hla_ge:w.heap.size≤la.blk:=Ln fun h=>(hnl la.blk (by omega)).1 j _ la ej rfl hla rfl;have hl1_ge:w.heap.size≤l1.blk:=Ln fun h=>(hnl l1.blk (by omega)).1 i _ l1 ei rfl hl1 rfl;have hla_lt:la.blk<w'.heap.size:=r0.lt rfl _ rfl;have hl1_lt:l1.blk<w'.heap.size:=r1.lt rfl _ rfl;have hd:la.blk≠l1.blk:=fun e=>q3.dist j i _ _ la l1 ej ei rfl rfl hla hl1 (fun e=>hij e.symm) la.blk rfl e.symm;obtain ⟨N,hN⟩:=Qcv (fun c=>c=la.blk∨c=l1.blk) w'.heap.size
 have hold:∀ c,N.testBit c=true->w.heap.size≤c:=fun c h=>by rcases ((hN c).1 h).2 with rfl | rfl<;>omega
 let mt':Nat->Option Loc:=fun x=>if x=0 then some la else if x=1 then some l1 else none
 have key:∀ x l,mt' x=some l->(x=0∧l=la)∨(x=1∧l=l1):=fun x l h=>by
  by_cases h0:x=0
  ·subst h0;exact .inl ⟨rfl,by simpa [mt'] using h.symm⟩
  by_cases h1:x=1
  ·subst h1;exact .inr ⟨rfl,by simpa [mt'] using h.symm⟩
  simp [mt',h0,h1] at h
 have hrep:RegRep w' [] la (fun c=>N.testBit c=true):=by
  refine ⟨[],mt',fun _ _=>none,fun c=>c=la.blk∨c=l1.blk,fun _ _=>False,rfl,rfl,⟨fun x o l hio hl=>?_,fun x l hl=>?_,fun x hlen=>?_,fun x y lx ly h1 h2 hne e=>?_⟩,fun c hc=>(hN c).2 ⟨by rcases hc with rfl | rfl<;>assumption,hc⟩,fun x q hq=>by simp at hq,fun x y c hx=>by simp at hx⟩
  ·rcases key x l hl with ⟨rfl,rfl⟩ | ⟨rfl,rfl⟩
   ·cases hio;obtain ⟨C,t,fz,p1,p2,p3,p4,p5⟩:=r0;refine ⟨C,t,fz,p1,p2,p3,p4,fun y v hy=>?_⟩
    match y,hy with
    | 0,hy=>
     cases hy;refine ⟨?_,(p5 0 (.map i) rfl).2⟩;have:=(p5 0 (.map i) rfl).1;generalize C.getD (l.off+0) Qc=vv at this
     cases this with
     | map _ l2 hl2=>
      rw [hl1] at hl2;cases hl2;exact .map 1 l1 (by simp [Q4u,mt'])
    | y+1,hy=>simp at hy
   cases hio;obtain ⟨E,clk,p1,p2,p4,p3⟩:=r1;exact ⟨E,clk,p1,p2,p4,fun y kk v hy=>by simp [gm] at hy⟩
  ·rcases key x l hl with ⟨rfl,rfl⟩ | ⟨rfl,rfl⟩
   ·exact .inl rfl
   exact .inr rfl
  ·have:2≤x:=hlen;simp only [mt'];rw [Ae (by omega),Ae (by omega)]
  rcases key x lx h1 with ⟨rfl,rfl⟩ | ⟨rfl,rfl⟩<;>rcases key y ly h2 with ⟨rfl,rfl⟩ | ⟨rfl,rfl⟩
  ·exact hne rfl
  ·exact hd e
  ·exact hd e.symm
  exact hne rfl
 let n:=H.length
 let ln:Loc:=⟨0,0,N⟩
 let θ2:Th:=⟨fun b=>if b=n then some la else if b=n+1 then some ln else θ b,θ.bad⟩
 have get:∀ (x:Nat) o,(H ++ [.dead,.ext [] n])[x]? = some o->(x=n+1∧o = .ext [] n)∨(x=n∧o = .dead)∨(x<n∧H[x]? = some o):=by
  intro x o hx
  by_cases hin:x<n
  ·rw [Lh hin] at hx;exact .inr (.inr ⟨hin,hx⟩)
  rw [Lm (by show H.length≤x;omega)] at hx
  by_cases h0:x=n
  ·rw [show x - H.length=0 by rw [h0];show H.length - H.length=0;omega] at hx;exact .inr (.inl ⟨h0,(Am hx).symm⟩)
  by_cases h1:x=n+1
  ·rw [show x - H.length=1 by rw [h1];show H.length+1 - H.length=1;omega] at hx;exact .inl ⟨h1,(Am hx).symm⟩
  have h0':x≠H.length:=h0;have h1':x≠H.length+1:=h1;have hin':¬ x<H.length:=hin;rw [Md (by simp;omega)] at hx;cases hx
 have hext:∀ x l,θ x=some l->θ2 x=some l:=fun x l h=>by
  have:x<n:=by
   by_cases hlt:x<n
   ·exact hlt
   rw [hH.fresh x (by show H.length≤x;omega)] at h;cases h
  simp only [θ2];rw [Ae (by omega),Ae (by omega)];exact h
 have tt:∀ x l,x<n->θ2 x=some l->θ x=some l:=fun x l hx h=>by
  simp only [θ2] at h;rw [Ae (by omega),Ae (by omega)] at h;exact h
 have tn:∀ l,θ2 (n+1)=some l->l=ln:=fun l h=>by
  have h':(if n+1=n then some la else if n+1=n+1 then some ln else θ (n+1))=some l:=h;rw [Ae (by omega),Af rfl] at h';exact (Am h').symm
 have nl2:∀ c,c<w.heap.size->NL θ H c->NL θ2 (H ++ [.dead,.ext [] n]) c∧w'.heap[c]? = w.heap[c]? := fun c hc hf=>by
  refine ⟨fun x o l hx hol hθ=>?_,(hnl c hc).2⟩
  rcases get x o hx with ⟨rfl,rfl⟩ | ⟨_,rfl⟩ | ⟨h1,h3⟩
  ·have:=tn l hθ;subst this;intro e;have:=hold c e;omega
  ·cases hol
  exact hf x o l h3 hol (tt x l h1 hθ)
 have free2:∀ c,c<w.heap.size->Qe θ H c->Qe θ2 (H ++ [.dead,.ext [] n]) c∧w'.heap[c]? = w.heap[c]? := fun c hc hf=>⟨⟨hf.1,(nl2 c hc hf.2).1⟩,(nl2 c hc hf.2).2⟩;refine ⟨_,cr,_,θ2,rfl,⟨rfl,rfl⟩,?_,⟨?_,?_,?_,?_,?_,?_⟩,⟨⟨hext,rfl,nl2,q4.size,q4.os,q4.tape,q4.output⟩,by simp,fun x hx=>?_⟩⟩
 ·rw [hcr];exact .ptr n 0 la (by simp [θ2])
 ·intro x o l hx hθ
  rcases get x o hx with ⟨rfl,rfl⟩ | ⟨_,rfl⟩ | ⟨h1,h3⟩
  ·have:=tn l hθ;subst this;exact ⟨⟨la,by simp [θ2],hrep⟩,fun c hc=>((hN c).1 hc).1⟩
  ·trivial
  have hr0:=hH.obj x o l h3 (tt x l h1 hθ);exact hr0.mono hext free2 (fun hol c hc=>(hnl c (hr0.lt hol c hc)).2) q4.size
 ·intro x y ox oy lx ly hx hy hxl hyl htx hty hne c c1 c2
  rcases get x ox hx with ⟨rfl,rfl⟩ | ⟨_,rfl⟩ | ⟨h1,h3⟩<;>rcases get y oy hy with ⟨rfl,rfl⟩ | ⟨_,rfl⟩ | ⟨k1,k3⟩
  ·exact hne rfl
  ·cases hyl
  ·have:=tn lx htx;subst this;have g1:=(hH.obj y oy ly k3 (tt y ly k1 hty)).lt hyl c c2;have:=hold c c1;omega
  ·cases hxl
  ·cases hxl
  ·cases hxl
  ·have:=tn ly hty;subst this;have g1:=(hH.obj x ox lx h3 (tt x lx h1 htx)).lt hxl c c1;have:=hold c c2;omega
  ·cases hyl
  exact hH.dist x y ox oy lx ly h3 k3 hxl hyl (tt x lx h1 htx) (tt y ly k1 hty) hne c c1 c2
 ·intro x hx;simp at hx;simp only [θ2];rw [Ae (by show x≠H.length;omega),Ae (by show x≠H.length+1;omega)];exact hH.fresh x (by omega)
 ·intro x o l hx hol hθ c hc
  rcases get x o hx with ⟨rfl,rfl⟩ | ⟨_,rfl⟩ | ⟨h1,h3⟩
  ·have:=tn l hθ;subst this;intro hbad;have h1:=hH.badlt c hbad;have:=hold c hc;omega
  ·cases hol
  exact hH.good x o l h3 hol (tt x l h1 hθ) c hc
 ·intro c hc;exact Me (hH.badlt c hc) q4.size
 ·intro x Q e hx
  rcases get x _ hx with ⟨rfl,_⟩ | ⟨_,h⟩ | ⟨h1,h3⟩
  ·exact ⟨ln,by show (if n+1=n then some la else if n+1=n+1 then some ln else θ (n+1))=some ln;rw [Ae (by omega),Af rfl]⟩
  ·cases h
  exact (hH.tok x Q e h3).imp fun _ h=>hext _ _ h
 have:x<n:=hx;simp only [θ2];rw [Ae (by omega),Ae (by omega)]
end
end
end Go.Av
