/- Part of FromsnNames: the law returns true; no condition. -/
import Derived.Test.YtfgpphgmjcnleaaGreatDoorTpSrt
import Derived.Test.YtfgpphgmjcnleaaGreatDoorRegS
import Derived.Test.YtfgpphgmjcnleaaGreatDoorChks
import Derived.Test.YtfgpphgmjcnleaaGreatDoorAvTac
import Derived.Test.YtfgpphgmjcnleaaGreatDoorAvAbb
set_option linter.all false
namespace Go.Av.Tp
open Go Go.Proofs Go.RowKit Go.Maps Go.Sort Go.Shelf
variable {Gl:Nat->Option (List PV)}
theorem Qpt (blk off cap:Nat) (ss:List Tpc) (w:World) {C:Array Value} {t:TypeId} {fz:Nat×Nat} (hg:w.heap[blk]? = some (.cells C t fz)) (hfz:∀ j,j<C.size->¬(fz.1≤j∧j<fz.2))
  (hC:∀ j u,(ss.flatMap Q1o)[j]? = some u->C[off+j]? = some u) (hlen:ss.length<4611686018427387904) :
  Calls Tryz.prog 89 #[.slice (some ⟨blk,off,none⟩) ss.length cap,.func (.func 90) #[] #[]] w fun e w'=>e = .returned (.tuple #[])∧∃ (ss':List Tpc) (C':Array Value),ss'.Perm ss∧ss'.Pairwise (fun a b=>a.1≤b.1) ∧
   w'.heap[blk]? = some (.cells C' t fz)∧C'.size=C.size∧(∀ j u,(ss'.flatMap Q1o)[j]? = some u->C'[off+j]? = some u)∧w.grownBy w' (some blk):=by
 have hgl:=(Ls.1 hg).1;have hget:∀ j,j<ss.length * 3->C[off+j]? = some (flatK Q1o 3 ss.toArray)[j]! := fun j hj=>hC j _ (Qcd ss.toArray j (by simpa using hj))
 refine (AnyQ.slices_SortFunc Tryz.lsort 3 Tryz.isAgg90 Tryz.sizeOf90 Q1o Qau (fun x v hv=>by simp [Q1o] at hv;rcases hv with rfl | rfl | rfl<;>rfl) Qj3 Qpy 90 #[] blk off cap ss.toArray w Qn4
  (fun m os dk _ x y=>Qtl x y _) (fun j hj=>?_) hgl (by simpa using hlen)).mono ?_
 ·rw [size_flatK] at hj
  have hj':j<ss.length * 3:=by simpa using hj
  have h1:=hget j hj';have h2:=hfz (off+j) (Ls.1 h1).1;refine ⟨?_,?_⟩
  ·simp only [World.cell?,hg];exact h1
  simp only [World.frozen?,hg,Bool.and_eq_false_iff,An];omega
 rintro e w' ⟨rfl,d',n,os,hp,hs,rfl⟩
 have hsz:d'.size=ss.length:=by simpa using hp.1
 have hperm:d'.toList.Perm ss:=by
  have:=hp.2.2;rw [show ss.toArray.size=d'.size from hp.1.symm] at this;rw [Array.extract_size] at this;rw [show d'.size=ss.toArray.size from hp.1,Array.extract_size] at this;simpa using this
 have heq:(sortWorldK Q1o 3 w blk off n d' os).heap=w.heap.modify blk (onCells (putCells id off (flatK Q1o 3 d')))++os:=rfl
 have hh:(sortWorldK Q1o 3 w blk off n d' os).heap[blk]? = some (.cells (putCells id off (flatK Q1o 3 d') C) t fz):=by
  rw [heq,Ci (by simpa using hgl),Mu,Af rfl,hg];rfl
 refine ⟨rfl,d'.toList,_,hperm,?_,hh,by simp [putCells],fun j u hj=>?_,⟨rfl,rfl,rfl,?_,fun k hk hkr=>?_⟩⟩
 ·rw [List.pairwise_iff_getElem];intro i j hi hj hij;have:=hs i j (Nh _) hij (by simpa [hsz] using hj);rw [Qol,An] at this
  have hi':i<d'.size:=by simpa using hi
  have hj':j<d'.size:=by simpa using hj
  rw [getElem!_pos d' i hi',getElem!_pos d' j hj'] at this;rw [Array.getElem_toList,Array.getElem_toList];omega
 ·have hjl:j<d'.size * 3:=by
   have:=(La.1 hj).1;rw [Qd1] at this;simpa using this
  rw [Qcd d' j hjl] at hj;have hjc:off+j<C.size:=(Ls.1 (hget j (by rw [← hsz];exact hjl))).1;rw [← hj];simp only [putCells,Array.getElem?_mapIdx];rw [Lr hjc];simp [hjl]
 ·rw [heq];simp
 rw [heq,Ci (by simpa using hk),Mu,Ae (fun e=>hkr (by rw [← e]))]
theorem Qij {θ:Th} {S:Nat->Prop} {w:World}:∀ (l:List RTp) (j:Nat) (x:AV) (u v:Value),(l.flatMap Q6c)[j]? = some x->((l.map toC).flatMap Q1o)[j]? = some u->RelV θ S w x v->v=u
 | [],j,x,u,v,h,_,_=>by simp at h
 | a::l,j,x,u,v,h,hu,hv=>by
  rw [Mz] at h;rw [Mx,Mz] at hu
  match j,h,hu with
  | 0,h,hu=>simp [Q6c] at h;simp [Q1o] at hu;subst h;subst hu;cases hv with | p _ _ q=>cases q;rfl
  | 1,h,hu=>simp [Q6c] at h;simp [Q1o] at hu;subst h;subst hu;cases hv with | p _ _ q=>cases q;rfl
  | 2,h,hu=>simp [Q6c] at h;simp [Q1o] at hu;subst h;subst hu;cases hv with | p _ _ q=>cases q;rfl
  | j+3,h,hu=>exact Qij l j x u v (by simpa [Q6c] using h) (by simpa [Q1o] using hu) hv
theorem Qhr {α:Type} {l:List α} {n:Nat} {a : α} (h:l[n]? = some a):l.set n a=l:=by
 apply Mb;intro i
 by_cases e:n=i
 ·subst e;rw [Li (La.1 h).1,h]
 rw [Lg e]
def IsF (fa:AV):Prop:=∀ θ S w v,RelV θ S w fa v->v = .func (.func 90) #[] #[]
theorem Qvo:IsF (.p (.func (.func 90) [] [])):=fun θ S w v h=>by
 cases h with
 | p _ _ q=>
  cases q with
  | func _ _ _ A B hA hB hav hbv=>
   have hA0:A = #[]:=Mh hA;have hB0:B = #[]:=Mh hB;subst hA0;subst hB0;rfl
theorem Qn6 (H:List AObj) {fa:AV} (hfa:IsF fa):Q8 Tryz.prog Gl 89 [.p .nilSlice,fa] H (fun v H'=>v = .p (.tuple [])∧H'=H):=by
 refine ⟨by kernel_rfl,fun θ w cargs hargs hH hG=>?_⟩;have ha:=hargs.2 0 _ rfl;have hb:=hargs.2 1 _ rfl;have hsz:cargs.size=2:=hargs.1;obtain ⟨sv,fv,rfl⟩:∃ sv fv,cargs = #[sv,fv]:=⟨cargs[0],cargs[1],by apply Array.ext (by simpa using hsz);intro i h1 h2;have hi:i=0∨i=1:=(by omega);rcases hi with rfl | rfl<;>rfl⟩;have ha:RelV θ (Qe θ H) w (.p .nilSlice) sv:=ha;have hb:=hfa _ _ _ _ hb;have hb:fv = .func (.func 90) #[] #[]:=hb;subst hb
 cases ha with
 | p _ _ q=>
 cases q;refine (AnyF.slices_SortFunc_none Tryz.lsort none 0 (.func (.func 90) #[] #[]) w).mono ?_
 rintro e w' ⟨rfl,rfl⟩
 exact ⟨_,_,H,θ,rfl,⟨rfl,rfl⟩,.p _ _ (.tuple [] #[] rfl (fun i x h=>by simp at h)),hH,.refl _ _ _⟩
theorem Qse {H:List AObj} {n:Nat} {T:List RTp} {fa:AV} (hfa:IsF fa) (hn:H[n]? = some (.cells (T.flatMap Q6c))) (hT:T.length≤1000000000) :
  Q8 Tryz.prog Gl 89 [.slice 3 n 0 T.length,fa] H (fun v H'=>∃ T':List RTp,T'.Perm T∧T'.Pairwise (fun a b=>a.1≤b.1)∧v = .p (.tuple [])∧H'=H.set n (.cells (T'.flatMap Q6c))):=by
 refine ⟨by kernel_rfl,fun θ w cargs hargs hH hG=>?_⟩;have ha:=hargs.2 0 _ rfl;have hb:=hargs.2 1 _ rfl;have hsz:cargs.size=2:=hargs.1;obtain ⟨sv,fv,rfl⟩:∃ sv fv,cargs = #[sv,fv]:=⟨cargs[0],cargs[1],by apply Array.ext (by simpa using hsz);intro i h1 h2;have hi:i=0∨i=1:=(by omega);rcases hi with rfl | rfl<;>rfl⟩;have ha:RelV θ (Qe θ H) w (.slice 3 n 0 T.length) sv:=ha;have hb:=hfa _ _ _ _ hb;have hb:fv = .func (.func 90) #[] #[]:=hb;subst hb
 by_cases h0:T.length=0
 ·have e0:T = []:=Bf h0;subst e0
  have hnone:∀ p cap,Calls Tryz.prog 89 #[.slice p 0 cap,.func (.func 90) #[] #[]] w fun e w'=>∃ r cr H' θ',e = .returned cr∧(∃ T':List RTp,T'.Perm []∧T'.Pairwise (fun a b=>a.1≤b.1)∧r = .p (.tuple [])∧H'=H.set n (.cells (T'.flatMap Q6c)))∧RelV θ' (Qe θ' H') w' r cr∧Hp θ' H' w'∧EvoS θ H w θ' H' w':=fun p cap=>by
   refine (AnyF.slices_SortFunc_none Tryz.lsort p cap (.func (.func 90) #[] #[]) w).mono ?_
   rintro e w' ⟨rfl,rfl⟩
   refine ⟨_,_,H,θ,rfl,⟨[],.refl _,.nil,rfl,(Qhr hn).symm⟩,.p _ _ (.tuple [] #[] rfl (fun i x h=>by simp at h)),hH,.refl _ _ _⟩
  cases ha with
  | slice _ _ _ _ cap l addr h he hl hs ha=>exact hnone _ _
  | sliceN _ _ _ o=>exact hnone _ _
 generalize hL:T.length=L at ha h0
 cases ha with
 | sliceN _ _ _ o=>exact absurd rfl h0
 | slice _ _ _ _ cap l addr hl0 he hl hs had=>
 have hcap:cap≠0:=by omega
 have haddr:addr=⟨l.blk,l.off+0,none⟩:=had.resolve_right hcap;subst haddr;subst hL;obtain ⟨C,t,fz,c1,c2,c3,c4,c5⟩:=hH.obj n _ l hn hl0;have hcl:=Q5y T
 have hC:∀ j u,((T.map toC).flatMap Q1o)[j]? = some u->C[l.off+0+j]? = some u:=fun j u hj=>by
  have hjl:j<T.length * 3:=by
   have:=(La.1 hj).1;rw [Qd1,Mg] at this;exact this
  obtain ⟨x,hx⟩:∃ x,(T.flatMap Q6c)[j]? = some x:=⟨_,Lc (by rw [hcl];exact hjl)⟩;have r1:=(c5 j x hx).1
  have hjc:l.off+j<C.size:=by omega
  have eC:C[l.off+0+j]? = some (C.getD (l.off+j) Qc):=by
   rw [Nc,Lr hjc,Lo,Lr hjc];rfl
  rw [eC]
  congr 1
  exact Qij T j x u _ hx hj r1
 have hso:=Qpt l.blk (l.off+0) cap (T.map toC) w c1 c3 hC (by rw [Mg];omega);rw [Mg] at hso;refine hso.mono ?_
 rintro e w' ⟨rfl,ss',C',hp,hpw,g1,g2,g3,g4⟩
 obtain ⟨T',hp',rfl⟩:=Q89 hp;have hlen':T'.length=T.length:=hp'.length_eq;have lts:∀ i o l,H[i]? = some o->o.live=true->θ i=some l->∀ c,o.occ l c->c<w.heap.size:=fun i o l hi ho hl c hc=>(hH.obj i o l hi hl).lt ho c hc;have hblk:l.blk<w.heap.size:=lts n _ l hn rfl hl0 _ rfl;have hnl:n<H.length:=(La.1 hn).1
 have other:∀ i o li,i≠n->H[i]? = some o->o.live=true->θ i=some li->∀ c,o.occ li c->w'.heap[c]? = w.heap[c]? := fun i o li hin hi hol hli c hc=>
  g4.block c (lts i o li hi hol hli c hc) (fun e=>hH.dist i n o _ li l hi hn hol rfl hli hl0 hin c hc (by cases e;rfl))
 have get:∀ i o,(H.set n (.cells (T'.flatMap Q6c)))[i]? = some o->(i=n∧o = .cells (T'.flatMap Q6c))∨(i≠n∧H[i]? = some o):=fun i o hi=>by
  by_cases e:n=i
  ·subst e;rw [Li hnl] at hi;cases hi;exact .inl ⟨rfl,rfl⟩
  rw [Lg e] at hi;exact .inr ⟨fun h=>e h.symm,hi⟩
 have nl2:∀ c,NL θ H c->NL θ (H.set n (.cells (T'.flatMap Q6c))) c:=fun c hf i o li hi hol hθ hc=>by
  rcases get i o hi with ⟨rfl,rfl⟩ | ⟨k1,k2⟩
  ·exact hf i _ li hn rfl hθ hc
  exact hf i o li k2 hol hθ hc
 have nlb:∀ c,c<w.heap.size->NL θ H c->w'.heap[c]? = w.heap[c]? := fun c hc hf=>g4.block c hc (fun e=>hf n _ l hn rfl hl0 (by cases e;rfl));have free2:∀ c,c<w.heap.size->Qe θ H c->Qe θ (H.set n (.cells (T'.flatMap Q6c))) c∧w'.heap[c]? = w.heap[c]? := fun c hc hf=>⟨⟨hf.1,nl2 c hf.2⟩,nlb c hc hf.2⟩;refine ⟨_,_,_,θ,rfl,⟨T',hp',?_,rfl,rfl⟩,.p _ _ (.tuple [] #[] rfl (fun i x h=>by simp at h)),⟨?_,?_,?_,?_,?_,?_⟩,⟨⟨fun _ _ e=>e,rfl,fun c hc hf=>⟨nl2 c hf,nlb c hc hf⟩,g4.size,g4.os,g4.tape,g4.output⟩,by simp,fun _ _=>rfl⟩⟩
 ·exact (List.pairwise_map (f:=toC) (R:=fun a b:Tpc=>a.1≤b.1)).1 hpw
 ·intro i o li hi hθ
  rcases get i o hi with ⟨rfl,rfl⟩ | ⟨k1,k2⟩
  ·rw [hl0] at hθ;cases hθ;refine ⟨C',t,fz,g1,g2.trans c2,fun j hj=>c3 j (by rw [← g2];exact hj),by rw [Q5y,hlen',← Q5y,g2];exact c4,fun j x hj=>?_⟩
   have hjl:j<T'.length * 3:=by rw [← Q5y];exact (La.1 hj).1
   obtain ⟨u,hu⟩:∃ u,((T'.map toC).flatMap Q1o)[j]? = some u:=⟨_,Lc (by rw [Qd1,Mg];exact hjl)⟩;have e1:=g3 j u hu
   have e2:C'.getD (l.off+j) Qc=((T'.map toC).flatMap Q1o).getD j Qc:=by
    rw [Lo,Le,hu];rw [Nc] at e1;rw [e1]
   rw [e2];exact ⟨(Q94 T' j x hj).1 _ _ _,(Q94 T' j x hj).2⟩
  exact (hH.obj i o li k2 hθ).mono (fun _ _ e=>e) free2 (fun hol c hc=>other i o li k1 k2 hol hθ c hc) g4.size
 ·intro i j oi oj li lj hi hj hil hjl hti htj hne c a1 a2
  rcases get i oi hi with ⟨rfl,rfl⟩ | ⟨k1,k2⟩<;>rcases get j oj hj with ⟨rfl,rfl⟩ | ⟨m1,m2⟩
  ·exact hne rfl
  ·exact hH.dist i j _ oj li lj hn m2 rfl hjl hti htj hne c a1 a2
  ·exact hH.dist i j oi _ li lj k2 hn hil rfl hti htj hne c a1 a2
  exact hH.dist i j oi oj li lj k2 m2 hil hjl hti htj hne c a1 a2
 ·intro i hi;exact hH.fresh i (by simpa using hi)
 ·intro i o li hi hol hθ c hc
  rcases get i o hi with ⟨rfl,rfl⟩ | ⟨k1,k2⟩
  ·exact hH.good i _ li hn rfl hθ c hc
  exact hH.good i o li k2 hol hθ c hc
 ·intro c hc;exact Me (hH.badlt c hc) g4.size
 intro i Q q hi
 rcases get i _ hi with ⟨_,h⟩ | ⟨k1,k2⟩
 ·cases h
 exact hH.tok i Q q k2
end Go.Av.Tp
namespace Go.Av.Tp
open Go Go.Proofs
attribute [local irreducible] Vw Qv Q8 Q3g Q27 Q6
set_option maxHeartbeats 1000000
variable {Gl:Nat->Option (List PV)}
section
variable {R:Reg} {c n:List UInt8} {id:Int} {i j:Nat} {C:RCl}
theorem Qer {g:List (Nat×Nat)} (hg:g.length=R.length) (h:Ya c 0 R=some (i,C)) (hT:C.all.length≤1000000000):Q8 Tryz.prog Gl 51 [.ptr 0 0,.p (.str c)] (Q41 R g i c C)
  (fun v H'=>∃ T':List RTp,T'.Perm C.all∧T'.Pairwise (fun a b=>a.1≤b.1)∧((T' = []∧v = .p .nilSlice∧H'=Q41 R g i c C ++ [.cells [.map 4]])∨(T' ≠ []∧v = .slice 3 7 0 T'.length∧H'=Q41 R g i c C ++ [.cells [.map 4],.cells (T'.flatMap Q6c)]))):=by
 refine Q3 k51 ?_;refine (Q3 k27 ?_:Q8 Tryz.prog Gl 27 _ _ _);refine Ze (Z9 R g 0 i hg h) ?_;refine (Q3 k88 ?_:Q8 Tryz.prog Gl 88 _ _ _);refine (Qo (Qru (H:=Q41 R g i c C ++ [.cells [.map 4]]) (n:=6) (o:=0) (r:=4) (cs := [.map 4]) (T:=C.all) rfl rfl rfl hT) fun v H' hq=>?_:Q8 Tryz.prog Gl 87 _ _ _);obtain ⟨T',hp,hq⟩:=hq
 rcases hq with ⟨rfl,rfl,rfl⟩ | ⟨hne,rfl,rfl⟩
 ·refine (Qo (Qn6 _ Qvo) fun v H' hq=>?_:Q8 Tryz.prog Gl 89 _ _ _);obtain ⟨rfl,rfl⟩:=hq;exact ⟨[],hp,.nil,.inl ⟨rfl,rfl,rfl⟩⟩
 refine (Qo (Qse (H:=Q41 R g i c C ++ [.cells [.map 4],.cells (T'.flatMap Q6c)]) (n:=7) (T:=T') Qvo rfl (by rw [hp.length_eq];exact hT)) fun v H' hq=>?_:Q8 Tryz.prog Gl 89 _ _ _);obtain ⟨T2,hp2,hs,rfl,rfl⟩:=hq;refine ⟨T2,hp2.trans hp,hs,.inr ⟨fun e=>hne (by subst e;exact Cs.1 (by rw [← hp2.length_eq];rfl)),?_,rfl⟩⟩;rw [hp2.length_eq];rfl
end
end Go.Av.Tp
