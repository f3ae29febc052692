/- Part of FromsnBack: the law returns true; no condition. -/
import Derived.Test.YthbmcbacbhfnmaaGreatDoorRegM
set_option linter.all false
namespace Go.Av.Tp
set_option maxHeartbeats 4000000
open Go Go.Proofs Go.RowKit Go.Maps Go.Sort Go.Shelf
variable {Gl:Nat->Option (List PV)}
def Z5i (blk off cap:Nat) (ss:List Tpc) (w:World) {C:Array Value} {t:TypeId} {fz:Nat×Nat} (hg:w.heap[blk]? = some (.cells C t fz)) (hfz:∀ j,j<C.size->¬(fz.1≤j∧j<fz.2))
  (hC:∀ j u,(ss.flatMap Q8k)[j]? = some u->C[off+j]? = some u) (hlen:ss.length<4611686018427387904) :
  Calls Tryz.prog 52 #[.slice (some ⟨blk,off,none⟩) ss.length cap,.func (.func 53) #[] #[]] w fun e w'=>e = .returned (.tuple #[])∧∃ (ss':List Tpc) (C':Array Value),ss'.Perm ss∧ss'.Pairwise (fun a b=>a.1≤b.1) ∧
   w'.heap[blk]? = some (.cells C' t fz)∧C'.size=C.size∧(∀ j u,(ss'.flatMap Q8k)[j]? = some u->C'[off+j]? = some u)∧w.grownBy w' (some blk):=by
 have hgl:=(Mh.1 hg).1;have hget:∀ j,j<ss.length * 3->C[off+j]? = some (flatK Q8k 3 ss.toArray)[j]! := fun j hj=>hC j _ (Ql7 ss.toArray j (by omega))
 refine (AnyQ.slices_SortFunc Tryz.lsort 3 Tryz.isAgg64 Tryz.sizeOf64 Q8k Qir (fun x v hv=>by simp [Q8k] at hv;rcases hv with rfl | rfl | rfl<;>rfl) Qpy Z5t 53 #[] blk off cap ss.toArray w Z0f
  (fun m os dk _ x y=>Zci x y _) (fun j hj=>?_) hgl (by omega)).mono ?_
 ·grind [size_flatK,World.cell?,World.frozen?]
 rintro e w' ⟨rfl,d',n,os,hp,hs,rfl⟩
 have hsz:d'.size=ss.length:=by simpa using hp.1
 have hperm:d'.toList.Perm ss:=by
  have:=hp.2.2;rw [show ss.toArray.size=d'.size from hp.1.symm] at this;rw [Array.extract_size] at this;rw [show d'.size=ss.toArray.size from hp.1,Array.extract_size] at this;simpa using this
 have heq:(sortWorldK Q8k 3 w blk off n d' os).heap=w.heap.modify blk (onCells (putCells id off (flatK Q8k 3 d')))++os:=rfl
 have hh:(sortWorldK Q8k 3 w blk off n d' os).heap[blk]? = some (.cells (putCells id off (flatK Q8k 3 d') C) t fz):=by
  rw [heq,Array.getElem?_append_left (by simp_all),Ni,Af rfl,hg];rfl
 refine ⟨rfl,d'.toList,_,hperm,?_,hh,by simp [putCells],fun j u hj=>?_,⟨rfl,rfl,rfl,?_,fun k hk hkr=>?_⟩⟩
 ·rw [Bw];intro i j hi hj hij;have:=hs i j (Lk _) hij (by simp_all)
  grind [Z3y]
 ·have hjl:j<d'.size * 3:=by grind [Qn8]
  rw [Ql7 d' j hjl] at hj;have hjc:off+j<C.size:=(Mh.1 (hget j (by omega))).1
  simp_all [putCells]
 ·simp_all
 grind
theorem Qrp {θ:Th} {S:Nat->Prop} {w:World}:∀ (l:List RTp) (j:Nat) (x:AV) (u v:Value),(l.flatMap Qec)[j]? = some x->((l.map toC).flatMap Q8k)[j]? = some u->RelV θ S w x v->v=u
 | [],j,x,u,v,h,_,_=>by simp_all
 | a::l,j,x,u,v,h,hu,hv=>by
  rw [Mz] at h;rw [Mv,Mz] at hu
  match j,h,hu with
  | 0,h,hu=>simp [Qec] at h;simp [Q8k] at hu;subst h;subst hu;cases hv with | p _ _ q=>cases q;rfl
  | 1,h,hu=>simp [Qec] at h;simp [Q8k] at hu;subst h;subst hu;cases hv with | p _ _ q=>cases q;rfl
  | 2,h,hu=>simp [Qec] at h;simp [Q8k] at hu;subst h;subst hu;cases hv with | p _ _ q=>cases q;rfl
  | j+3,h,hu=>exact Qrp l j x u v (by simp_all [Qec]) (by simp_all [Q8k]) hv
def Qtf {α:Type} {l:List α} {n:Nat} {a : α} (h:l[n]? = some a):l.set n a=l:=by
 apply Lw
 grind
def IsF (fa:AV):Prop:=∀ θ S w v,RelV θ S w fa v->v = .func (.func 53) #[] #[]
def Zkk:IsF (.p (.func (.func 53) [] [])):=fun θ S w v h=>by
 cases h with
 | p _ _ q=>
  cases q<;>simp_all
def Z26 (H:List AObj) {fa:AV} (hfa:IsF fa):Qq Tryz.prog Gl 52 [.p .nilSlice,fa] H (fun v H'=>v = .p (.tuple [])∧H'=H):=by
 refine ⟨by kernel_rfl,fun θ w cargs hargs hH hG=>?_⟩;have ha:=hargs.2 0 _ rfl;have hb:=hargs.2 1 _ rfl;have hsz:cargs.size=2:=hargs.1;obtain ⟨sv,fv,rfl⟩:∃ sv fv,cargs = #[sv,fv]:=⟨cargs[0],cargs[1],by grind⟩;have ha:RelV θ (Qu θ H) w (.p .nilSlice) sv:=ha;have hb:=hfa _ _ _ _ hb;have hb:fv = .func (.func 53) #[] #[]:=hb;subst hb
 cases ha with
 | p _ _ q=>
 cases q;refine (AnyF.slices_SortFunc_none Tryz.lsort none 0 (.func (.func 53) #[] #[]) w).mono ?_
 rintro e w' ⟨rfl,rfl⟩
 exact ⟨_,_,H,θ,rfl,⟨rfl,rfl⟩,.p _ _ (.tuple [] #[] rfl (fun i x h=>by simp_all)),hH,.refl _ _ _⟩
def Za4 {H:List AObj} {n:Nat} {T:List RTp} {fa:AV} (hfa:IsF fa) (hn:H[n]? = some (.cells (T.flatMap Qec))) (hT:T.length≤1000000000) :
  Qq Tryz.prog Gl 52 [.slice 3 n 0 T.length,fa] H (fun v H'=>∃ T':List RTp,T'.Perm T∧T'.Pairwise (fun a b=>a.1≤b.1)∧v = .p (.tuple [])∧H'=H.set n (.cells (T'.flatMap Qec))):=by
 refine ⟨by kernel_rfl,fun θ w cargs hargs hH hG=>?_⟩;have ha:=hargs.2 0 _ rfl;have hb:=hargs.2 1 _ rfl;have hsz:cargs.size=2:=hargs.1;obtain ⟨sv,fv,rfl⟩:∃ sv fv,cargs = #[sv,fv]:=⟨cargs[0],cargs[1],by grind⟩;have ha:RelV θ (Qu θ H) w (.slice 3 n 0 T.length) sv:=ha;have hb:=hfa _ _ _ _ hb;have hb:fv = .func (.func 53) #[] #[]:=hb;subst hb
 by_cases h0:T.length=0
 ·have e0:T = []:=Bo h0;subst e0
  have hnone:∀ p cap,Calls Tryz.prog 52 #[.slice p 0 cap,.func (.func 53) #[] #[]] w fun e w'=>∃ r cr H' θ',e = .returned cr∧(∃ T':List RTp,T'.Perm []∧T'.Pairwise (fun a b=>a.1≤b.1)∧r = .p (.tuple [])∧H'=H.set n (.cells (T'.flatMap Qec)))∧RelV θ' (Qu θ' H') w' r cr∧Hp θ' H' w'∧EvoS θ H w θ' H' w':=fun p cap=>by
   refine (AnyF.slices_SortFunc_none Tryz.lsort p cap (.func (.func 53) #[] #[]) w).mono ?_
   rintro e w' ⟨rfl,rfl⟩
   refine ⟨_,_,H,θ,rfl,⟨[],.refl _,.nil,rfl,(Qtf hn).symm⟩,.p _ _ (.tuple [] #[] rfl (fun i x h=>by simp_all)),hH,.refl _ _ _⟩
  cases ha<;>simp_all
 generalize hL:T.length=L at ha h0
 cases ha with
 | sliceN _ _ _ o=>omega
 | slice _ _ _ _ cap l addr hl0 he hl hs had=>
 have hcap:cap≠0:=by omega
 have haddr:addr=⟨l.blk,l.off+0,none⟩:=had.resolve_right hcap;subst haddr;subst hL;obtain ⟨C,t,fz,c1,c2,c3,c4,c5⟩:=hH.obj n _ l hn hl0;have hcl:=Qt2 T
 have hC:∀ j u,((T.map toC).flatMap Q8k)[j]? = some u->C[l.off+0+j]? = some u:=fun j u hj=>by
  have hjl:j<T.length * 3:=by grind [Qn8]
  obtain ⟨x,hx⟩:∃ x,(T.flatMap Qec)[j]? = some x:=⟨_,La (by omega)⟩;have r1:=(c5 j x hx).1
  have hjc:l.off+j<C.size:=by omega
  have eC:C[l.off+0+j]? = some (C.getD (l.off+j) Qr):=by simp_all
  grind [Qrp]
 have hso:=Z5i l.blk (l.off+0) cap (T.map toC) w c1 c3 hC (by grind);rw [Mf] at hso;refine hso.mono ?_
 rintro e w' ⟨rfl,ss',C',hp,hpw,g1,g2,g3,g4⟩
 obtain ⟨T',hp',rfl⟩:=Qfm hp;have hlen':T'.length=T.length:=hp'.length_eq;have lts:∀ i o l,H[i]? = some o->o.live=true->θ i=some l->∀ c,o.occ l c->c<w.heap.size:=fun i o l hi ho hl c hc=>(hH.obj i o l hi hl).lt ho c hc;have hblk:l.blk<w.heap.size:=lts n _ l hn rfl hl0 _ rfl;have hnl:n<H.length:=(Ld.1 hn).1
 have other:∀ i o li,i≠n->H[i]? = some o->o.live=true->θ i=some li->∀ c,o.occ li c->w'.heap[c]? = w.heap[c]? := fun i o li hin hi hol hli c hc=>
  g4.block c (lts i o li hi hol hli c hc) (fun e=>hH.dist i n o _ li l hi hn hol rfl hli hl0 hin c hc (by cases e;rfl))
 have get:∀ i o,(H.set n (.cells (T'.flatMap Qec)))[i]? = some o->(i=n∧o = .cells (T'.flatMap Qec))∨(i≠n∧H[i]? = some o):=fun i o hi=>by
  grind
 have nl2:∀ c,NL θ H c->NL θ (H.set n (.cells (T'.flatMap Qec))) c:=fun c hf i o li hi hol hθ hc=>by
  rcases get i o hi with ⟨rfl,rfl⟩ | ⟨k1,k2⟩
  ·exact hf i _ li hn rfl hθ hc
  exact hf i o li k2 hol hθ hc
 have nlb:∀ c,c<w.heap.size->NL θ H c->w'.heap[c]? = w.heap[c]? := fun c hc hf=>g4.block c hc (fun e=>hf n _ l hn rfl hl0 (by cases e;rfl));have free2:∀ c,c<w.heap.size->Qu θ H c->Qu θ (H.set n (.cells (T'.flatMap Qec))) c∧w'.heap[c]? = w.heap[c]? := fun c hc hf=>⟨⟨hf.1,nl2 c hf.2⟩,nlb c hc hf.2⟩;refine ⟨_,_,_,θ,rfl,⟨T',hp',?_,rfl,rfl⟩,.p _ _ (.tuple [] #[] rfl (fun i x h=>by grind)),⟨?_,?_,?_,?_,?_,?_⟩,⟨⟨fun _ _ e=>e,rfl,fun c hc hf=>⟨nl2 c hf,nlb c hc hf⟩,g4.size,g4.os,g4.tape,g4.output⟩,by simp,fun _ _=>rfl⟩⟩
 ·simp_all [List.pairwise_map,toC]
 ·intro i o li hi hθ
  rcases get i o hi with ⟨rfl,rfl⟩ | ⟨k1,k2⟩
  ·rw [hl0] at hθ;cases hθ;refine ⟨C',t,fz,g1,g2.trans c2,fun j hj=>c3 j (by omega),by grind,fun j x hj=>?_⟩
   have hjl:j<T'.length * 3:=by grind
   obtain ⟨u,hu⟩:∃ u,((T'.map toC).flatMap Q8k)[j]? = some u:=⟨_,La (by grind [Qn8])⟩;have e1:=g3 j u hu
   have e2:C'.getD (l.off+j) Qr=((T'.map toC).flatMap Q8k).getD j Qr:=by simp_all
   grind [Qlp]
  exact (hH.obj i o li k2 hθ).mono (fun _ _ e=>e) free2 (fun hol c hc=>other i o li k1 k2 hol hθ c hc) g4.size
 ·intro i j oi oj li lj hi hj hil hjl hti htj hne c a1 a2
  rcases get i oi hi with ⟨rfl,rfl⟩ | ⟨k1,k2⟩<;>rcases get j oj hj with ⟨rfl,rfl⟩ | ⟨m1,m2⟩
  ·omega
  ·exact hH.dist i j _ oj li lj hn m2 rfl hjl hti htj hne c a1 a2
  ·exact hH.dist i j oi _ li lj k2 hn hil rfl hti htj hne c a1 a2
  exact hH.dist i j oi oj li lj k2 m2 hil hjl hti htj hne c a1 a2
 ·intro i hi;exact hH.fresh i (by grind)
 ·intro i o li hi hol hθ c hc
  rcases get i o hi with ⟨rfl,rfl⟩ | ⟨k1,k2⟩
  ·exact hH.good i _ li hn rfl hθ c hc
  exact hH.good i o li k2 hol hθ c hc
 ·intro c hc;exact Lu (hH.badlt c hc) g4.size
 intro i Q q hi
 rcases get i _ hi with ⟨_,h⟩ | ⟨k1,k2⟩
 ·cases h
 exact hH.tok i Q q k2
end Go.Av.Tp
namespace Go.Av
noncomputable section
set_option maxHeartbeats 4000000
section
variable {P:Program} {Gl:Nat->Option (List PV)}
def Qt5 (P:Program) (Gl:Nat->Option (List PV)) (f:Nat):Prop:=
 ∀ H:List AObj,Qq P Gl f [] H (fun v H'=>v = .ptr H.length 0∧H'=H ++ [.dead,.ext [] H.length])
def Qy0 {f:Nat} (hok:Qm8 P f=true)
  (hc:Qq P Gl f [] [] (fun v H'=>∃ i j,v = .ptr j 0∧H'[j]? = some (.cells [.map i])∧H'[i]? = some (.map [])∧i≠j)):Qt5 P Gl f:=by
 intro H;refine ⟨hok,fun θ w cargs hargs hH hG=>?_⟩
 let bad0:Nat->Prop:=fun c=>c<w.heap.size∧¬ Qu θ H c
 let θ0:Th:=⟨fun _=>none,bad0⟩
 have hH0:Hp θ0 [] w:=Z3p w bad0 (fun c h=>h.1);have hfree:∀ c,Qu θ H c->Qu θ0 [] c:=fun c hf=>⟨fun hb=>hb.2 hf,fun a o l h=>by simp⟩
 have hG0:GlobOK Gl θ0 [] w:=aJ
 refine (hc.2 θ0 w cargs ⟨by rw [hargs.1],fun i v hv=>by simp_all⟩ hH0 hG0).mono ?_
 rintro e w' ⟨v,cr,H',θ',rfl,⟨i,j,rfl,ej,ei,hij⟩,q2,q3,q4⟩
 obtain ⟨la,hla,hcr⟩:∃ l,θ' j=some l∧cr = .pointer (some ⟨l.blk,l.off+0,none⟩):=by
  cases q2<;>simp_all
 have r0:=q3.obj j _ la ej hla
 obtain ⟨l1,hl1⟩:∃ l1,θ' i=some l1:=by
  obtain ⟨C,t,fz,p1,p2,p3,p4,p5⟩:=r0;have:=(p5 0 (.map i) rfl).1;generalize C.getD (la.off+0) Qr=vv at this;cases this<;>simp_all
 have r1:=q3.obj i _ l1 ei hl1;have hnl:∀ c,c<w.heap.size->NL θ' H' c∧w'.heap[c]? = w.heap[c]? := fun c hc=>q4.nl c hc (fun a o l h=>by simp);have hla_ge:w.heap.size≤la.blk:=Lo fun h=>(hnl la.blk (by omega)).1 j _ la ej rfl hla rfl;have hl1_ge:w.heap.size≤l1.blk:=Lo fun h=>(hnl l1.blk (by omega)).1 i _ l1 ei rfl hl1 rfl;have hla_lt:la.blk<w'.heap.size:=r0.lt rfl _ rfl;have hl1_lt:l1.blk<w'.heap.size:=r1.lt rfl _ rfl;have hd:la.blk≠l1.blk:=fun e=>q3.dist j i _ _ la l1 ej ei rfl rfl hla hl1 (fun e=>hij e.symm) la.blk rfl e.symm;obtain ⟨N,hN⟩:=Qin (fun c=>c=la.blk∨c=l1.blk) w'.heap.size
 have hold:∀ c,N.testBit c=true->w.heap.size≤c:=fun c h=>by grind
 let mt':Nat->Option Loc:=fun x=>if x=0 then some la else if x=1 then some l1 else none
 have key:∀ x l,mt' x=some l->(x=0∧l=la)∨(x=1∧l=l1):=fun x l h=>by
  grind
 have hrep:RegRep w' [] la (fun c=>N.testBit c=true):=by
  refine ⟨[],mt',fun _ _=>none,fun c=>c=la.blk∨c=l1.blk,fun _ _=>False,rfl,rfl,⟨fun x o l hio hl=>?_,fun x l hl=>?_,fun x hlen=>?_,fun x y lx ly h1 h2 hne e=>?_⟩,fun c hc=>(hN c).2 ⟨by omega,hc⟩,fun x q hq=>by simp_all,fun x y c hx=>by simp⟩
  ·rcases key x l hl with ⟨rfl,rfl⟩ | ⟨rfl,rfl⟩
   ·cases hio;obtain ⟨C,t,fz,p1,p2,p3,p4,p5⟩:=r0;refine ⟨C,t,fz,p1,p2,p3,p4,fun y v hy=>?_⟩
    match y,hy with
    | 0,hy=>
     cases hy;refine ⟨?_,(p5 0 (.map i) rfl).2⟩;have:=(p5 0 (.map i) rfl).1;generalize C.getD (l.off+0) Qr=vv at this
     cases this with
     | map _ l2 hl2=>
      rw [hl1] at hl2;cases hl2;exact .map 1 l1 (by rfl)
    | y+1,hy=>simp_all
   cases hio;obtain ⟨E,clk,p1,p2,p4,p3⟩:=r1;exact ⟨E,clk,p1,p2,p4,fun y kk v hy=>by simp [gm] at hy⟩
  ·grind
  ·have:2≤x:=hlen
   grind
  grind
 let n:=H.length
 let ln:Loc:=⟨0,0,N⟩
 let θ2:Th:=⟨fun b=>if b=n then some la else if b=n+1 then some ln else θ b,θ.bad⟩
 have get:∀ (x:Nat) o,(H ++ [.dead,.ext [] n])[x]? = some o->(x=n+1∧o = .ext [] n)∨(x=n∧o = .dead)∨(x<n∧H[x]? = some o):=by grind
 have hext:∀ x l,θ x=some l->θ2 x=some l:=fun x l h=>by
  have:x<n:=by
   by_cases hlt:x<n
   ·omega
   rw [hH.fresh x (by omega)] at h;simp_all
  grind
 have tt:∀ x l,x<n->θ2 x=some l->θ x=some l:=fun x l hx h=>by
  grind
 have tn:∀ l,θ2 (n+1)=some l->l=ln:=fun l h=>by
  grind
 have nl2:∀ c,c<w.heap.size->NL θ H c->NL θ2 (H ++ [.dead,.ext [] n]) c∧w'.heap[c]? = w.heap[c]? := fun c hc hf=>by
  refine ⟨fun x o l hx hol hθ=>?_,(hnl c hc).2⟩
  rcases get x o hx with ⟨rfl,rfl⟩ | ⟨_,rfl⟩ | ⟨h1,h3⟩
  ·have:=tn l hθ;subst this;intro e;have:=hold c e;omega
  ·cases hol
  exact hf x o l h3 hol (tt x l h1 hθ)
 have free2:∀ c,c<w.heap.size->Qu θ H c->Qu θ2 (H ++ [.dead,.ext [] n]) c∧w'.heap[c]? = w.heap[c]? := fun c hc hf=>⟨⟨hf.1,(nl2 c hc hf.2).1⟩,(nl2 c hc hf.2).2⟩;refine ⟨_,cr,_,θ2,rfl,⟨rfl,rfl⟩,?_,⟨?_,?_,?_,?_,?_,?_⟩,⟨⟨hext,rfl,nl2,q4.size,q4.os,q4.tape,q4.output⟩,by simp,fun x hx=>?_⟩⟩
 ·rw [hcr];exact .ptr n 0 la (by grind)
 ·intro x o l hx hθ
  rcases get x o hx with ⟨rfl,rfl⟩ | ⟨_,rfl⟩ | ⟨h1,h3⟩
  ·have:=tn l hθ;subst this;exact ⟨⟨la,by grind,hrep⟩,fun c hc=>((hN c).1 hc).1⟩
  ·trivial
  have hr0:=hH.obj x o l h3 (tt x l h1 hθ);exact hr0.mono hext free2 (fun hol c hc=>(hnl c (hr0.lt hol c hc)).2) q4.size
 ·intro x y ox oy lx ly hx hy hxl hyl htx hty hne c c1 c2
  rcases get x ox hx with ⟨rfl,rfl⟩ | ⟨_,rfl⟩ | ⟨h1,h3⟩<;>rcases get y oy hy with ⟨rfl,rfl⟩ | ⟨_,rfl⟩ | ⟨k1,k3⟩
  ·omega
  ·cases hyl
  ·have:=tn lx htx;subst this;have g1:=(hH.obj y oy ly k3 (tt y ly k1 hty)).lt hyl c c2;have:=hold c c1;omega
  ·cases hxl
  ·omega
  ·cases hxl
  ·have:=tn ly hty;subst this;have g1:=(hH.obj x ox lx h3 (tt x lx h1 htx)).lt hxl c c1;have:=hold c c2;omega
  ·cases hyl
  exact hH.dist x y ox oy lx ly h3 k3 hxl hyl (tt x lx h1 htx) (tt y ly k1 hty) hne c c1 c2
 ·intro x hx;simp at hx;simp only [θ2];rw [Ae (by omega),Ae (by omega)];exact hH.fresh x (by omega)
 ·intro x o l hx hol hθ c hc
  rcases get x o hx with ⟨rfl,rfl⟩ | ⟨_,rfl⟩ | ⟨h1,h3⟩
  ·have:=tn l hθ;subst this;intro hbad;have h1:=hH.badlt c hbad;have:=hold c hc;omega
  ·cases hol
  exact hH.good x o l h3 hol (tt x l h1 hθ) c hc
 ·exact d7
 ·intro x Q e hx
  rcases get x _ hx with ⟨rfl,_⟩ | ⟨_,h⟩ | ⟨h1,h3⟩
  ·grind
  ·cases h
  exact (hH.tok x Q e h3).imp fun _ h=>hext _ _ h
 grind
end
end
end Go.Av
