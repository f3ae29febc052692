/- Part of FromsnLearns: the law returns true; no condition. -/
import Derived.Test.YtgkmcegmobfknaaGreatDoorTpTopA
set_option linter.all false
namespace Go.Av.Tp
open Go Go.Proofs Go.RowKit Go.Maps Go.Sort Go.Shelf
variable {Gl:Nat->Option (List PV)}
theorem Qx7 (blk off cap:Nat) (ss:List Tpc) (w:World) {C:Array Value} {t:TypeId} {fz:Nat×Nat} (hg:w.heap[blk]? = some (.cells C t fz)) (hfz:∀ j,j<C.size->¬(fz.1≤j∧j<fz.2))
  (hC:∀ j u,(ss.flatMap Q2q)[j]? = some u->C[off+j]? = some u) (hlen:ss.length<4611686018427387904) :
  Calls Tryz.prog 26 #[.slice (some ⟨blk,off,none⟩) ss.length cap,.func (.func 27) #[] #[]] w fun e w'=>e = .returned (.tuple #[])∧∃ (ss':List Tpc) (C':Array Value),ss'.Perm ss∧ss'.Pairwise (fun a b=>a.1≤b.1) ∧
   w'.heap[blk]? = some (.cells C' t fz)∧C'.size=C.size∧(∀ j u,(ss'.flatMap Q2q)[j]? = some u->C'[off+j]? = some u)∧w.grownBy w' (some blk):=by
 have hgl:=(Lz.1 hg).1;have hget:∀ j,j<ss.length * 3->C[off+j]? = some (flatK Q2q 3 ss.toArray)[j]! := fun j hj=>hC j _ (Qcv ss.toArray j (by simpa using hj))
 refine (AnyQ.slices_SortFunc Tryz.lsort 3 Tryz.isAgg41 Tryz.sizeOf41 Q2q Qbu (fun x v hv=>by simp [Q2q] at hv;rcases hv with rfl | rfl | rfl<;>rfl) Ql7 Qvb 27 #[] blk off cap ss.toArray w Qt4
  (fun m os dk _ x y=>Z1w x y _) (fun j hj=>?_) hgl (by simpa using hlen)).mono ?_
 ·rw [size_flatK] at hj
  have hj':j<ss.length * 3:=by simpa using hj
  have h1:=hget j hj';have h2:=hfz (off+j) (Lz.1 h1).1;refine ⟨?_,?_⟩
  ·simp only [World.cell?,hg];exact h1
  simp only [World.frozen?,hg,Cz,An];omega
 rintro e w' ⟨rfl,d',n,os,hp,hs,rfl⟩
 have hsz:d'.size=ss.length:=by simpa using hp.1
 have hperm:d'.toList.Perm ss:=by
  have:=hp.2.2;rw [show ss.toArray.size=d'.size from hp.1.symm] at this;rw [Array.extract_size] at this;rw [show d'.size=ss.toArray.size from hp.1,Array.extract_size] at this;simpa using this
 have heq:(sortWorldK Q2q 3 w blk off n d' os).heap=w.heap.modify blk (onCells (putCells id off (flatK Q2q 3 d')))++os:=rfl
 have hh:(sortWorldK Q2q 3 w blk off n d' os).heap[blk]? = some (.cells (putCells id off (flatK Q2q 3 d') C) t fz):=by
  rw [heq,Dr (by simpa using hgl),Nk,Af rfl,hg];rfl
 refine ⟨rfl,d'.toList,_,hperm,?_,hh,by simp [putCells],fun j u hj=>?_,⟨rfl,rfl,rfl,?_,fun k hk hkr=>?_⟩⟩
 ·rw [Dx];intro i j hi hj hij;have:=hs i j (Ms _) hij (by simpa [hsz] using hj);rw [Qud,An] at this
  have hi':i<d'.size:=by simpa using hi
  have hj':j<d'.size:=by simpa using hj
  rw [getElem!_pos d' i hi',getElem!_pos d' j hj'] at this;rw [Array.getElem_toList,Array.getElem_toList];omega
 ·have hjl:j<d'.size * 3:=by
   have:=(La.1 hj).1;rw [Qeb] at this;simpa using this
  rw [Qcv d' j hjl] at hj;have hjc:off+j<C.size:=(Lz.1 (hget j (by rw [← hsz];exact hjl))).1;rw [← hj];simp only [putCells,Array.getElem?_mapIdx];rw [Ly hjc];simp [hjl]
 ·rw [heq];simp
 rw [heq,Dr (by simpa using hk),Nk,Ae (fun e=>hkr (by rw [← e]))]
theorem Qkx {θ:Th} {S:Nat->Prop} {w:World}:∀ (l:List RTp) (j:Nat) (x:AV) (u v:Value),(l.flatMap Q7v)[j]? = some x->((l.map toC).flatMap Q2q)[j]? = some u->RelV θ S w x v->v=u
 | [],j,x,u,v,h,_,_=>by simp at h
 | a::l,j,x,u,v,h,hu,hv=>by
  rw [Mu] at h;rw [Ng,Mu] at hu
  match j,h,hu with
  | 0,h,hu=>simp [Q7v] at h;simp [Q2q] at hu;subst h;subst hu;cases hv with | p _ _ q=>cases q;rfl
  | 1,h,hu=>simp [Q7v] at h;simp [Q2q] at hu;subst h;subst hu;cases hv with | p _ _ q=>cases q;rfl
  | 2,h,hu=>simp [Q7v] at h;simp [Q2q] at hu;subst h;subst hu;cases hv with | p _ _ q=>cases q;rfl
  | j+3,h,hu=>exact Qkx l j x u v (by simpa [Q7v] using h) (by simpa [Q2q] using hu) hv
theorem Qk5 {α:Type} {l:List α} {n:Nat} {a : α} (h:l[n]? = some a):l.set n a=l:=by
 apply Mm;intro i
 by_cases e:n=i
 ·subst e;rw [Ll (La.1 h).1,h]
 rw [Lj e]
def IsF (fa:AV):Prop:=∀ θ S w v,RelV θ S w fa v->v = .func (.func 27) #[] #[]
theorem Z38:IsF (.p (.func (.func 27) [] [])):=fun θ S w v h=>by
 cases h with
 | p _ _ q=>
  cases q with
  | func _ _ _ A B hA hB hav hbv=>
   have hA0:A = #[]:=Mp hA;have hB0:B = #[]:=Mp hB;subst hA0;subst hB0;rfl
theorem Qtm (H:List AObj) {fa:AV} (hfa:IsF fa):Qd Tryz.prog Gl 26 [.p .nilSlice,fa] H (fun v H'=>v = .p (.tuple [])∧H'=H):=by
 refine ⟨by kernel_rfl,fun θ w cargs hargs hH hG=>?_⟩;have ha:=hargs.2 0 _ rfl;have hb:=hargs.2 1 _ rfl;have hsz:cargs.size=2:=hargs.1;obtain ⟨sv,fv,rfl⟩:∃ sv fv,cargs = #[sv,fv]:=⟨cargs[0],cargs[1],by apply Array.ext (by simpa using hsz);intro i h1 h2;have hi:i=0∨i=1:=(by omega);rcases hi with rfl | rfl<;>rfl⟩;have ha:RelV θ (Qn θ H) w (.p .nilSlice) sv:=ha;have hb:=hfa _ _ _ _ hb;have hb:fv = .func (.func 27) #[] #[]:=hb;subst hb
 cases ha with
 | p _ _ q=>
 cases q;refine (AnyF.slices_SortFunc_none Tryz.lsort none 0 (.func (.func 27) #[] #[]) w).mono ?_
 rintro e w' ⟨rfl,rfl⟩
 exact ⟨_,_,H,θ,rfl,⟨rfl,rfl⟩,.p _ _ (.tuple [] #[] rfl (fun i x h=>by simp at h)),hH,.refl _ _ _⟩
theorem Qz5 {H:List AObj} {n:Nat} {T:List RTp} {fa:AV} (hfa:IsF fa) (hn:H[n]? = some (.cells (T.flatMap Q7v))) (hT:T.length≤1000000000) :
  Qd Tryz.prog Gl 26 [.slice 3 n 0 T.length,fa] H (fun v H'=>∃ T':List RTp,T'.Perm T∧T'.Pairwise (fun a b=>a.1≤b.1)∧v = .p (.tuple [])∧H'=H.set n (.cells (T'.flatMap Q7v))):=by
 refine ⟨by kernel_rfl,fun θ w cargs hargs hH hG=>?_⟩;have ha:=hargs.2 0 _ rfl;have hb:=hargs.2 1 _ rfl;have hsz:cargs.size=2:=hargs.1;obtain ⟨sv,fv,rfl⟩:∃ sv fv,cargs = #[sv,fv]:=⟨cargs[0],cargs[1],by apply Array.ext (by simpa using hsz);intro i h1 h2;have hi:i=0∨i=1:=(by omega);rcases hi with rfl | rfl<;>rfl⟩;have ha:RelV θ (Qn θ H) w (.slice 3 n 0 T.length) sv:=ha;have hb:=hfa _ _ _ _ hb;have hb:fv = .func (.func 27) #[] #[]:=hb;subst hb
 by_cases h0:T.length=0
 ·have e0:T = []:=Bz h0;subst e0
  have hnone:∀ p cap,Calls Tryz.prog 26 #[.slice p 0 cap,.func (.func 27) #[] #[]] w fun e w'=>∃ r cr H' θ',e = .returned cr∧(∃ T':List RTp,T'.Perm []∧T'.Pairwise (fun a b=>a.1≤b.1)∧r = .p (.tuple [])∧H'=H.set n (.cells (T'.flatMap Q7v)))∧RelV θ' (Qn θ' H') w' r cr∧Hp θ' H' w'∧EvoS θ H w θ' H' w':=fun p cap=>by
   refine (AnyF.slices_SortFunc_none Tryz.lsort p cap (.func (.func 27) #[] #[]) w).mono ?_
   rintro e w' ⟨rfl,rfl⟩
   refine ⟨_,_,H,θ,rfl,⟨[],.refl _,.nil,rfl,(Qk5 hn).symm⟩,.p _ _ (.tuple [] #[] rfl (fun i x h=>by simp at h)),hH,.refl _ _ _⟩
  cases ha with
  | slice _ _ _ _ cap l addr h he hl hs ha=>exact hnone _ _
  | sliceN _ _ _ o=>exact hnone _ _
 generalize hL:T.length=L at ha h0
 cases ha with
 | sliceN _ _ _ o=>exact absurd rfl h0
 | slice _ _ _ _ cap l addr hl0 he hl hs had=>
 have hcap:cap≠0:=by omega
 have haddr:addr=⟨l.blk,l.off+0,none⟩:=had.resolve_right hcap;subst haddr;subst hL;obtain ⟨C,t,fz,c1,c2,c3,c4,c5⟩:=hH.obj n _ l hn hl0;have hcl:=Q76 T
 have hC:∀ j u,((T.map toC).flatMap Q2q)[j]? = some u->C[l.off+0+j]? = some u:=fun j u hj=>by
  have hjl:j<T.length * 3:=by
   have:=(La.1 hj).1;rw [Qeb,Lp] at this;exact this
  obtain ⟨x,hx⟩:∃ x,(T.flatMap Q7v)[j]? = some x:=⟨_,Lb (by rw [hcl];exact hjl)⟩;have r1:=(c5 j x hx).1
  have hjc:l.off+j<C.size:=by omega
  have eC:C[l.off+0+j]? = some (C.getD (l.off+j) Qj):=by
   rw [Nn,Ly hjc,Lr,Ly hjc];rfl
  rw [eC]
  congr 1
  exact Qkx T j x u _ hx hj r1
 have hso:=Qx7 l.blk (l.off+0) cap (T.map toC) w c1 c3 hC (by rw [Lp];omega);rw [Lp] at hso;refine hso.mono ?_
 rintro e w' ⟨rfl,ss',C',hp,hpw,g1,g2,g3,g4⟩
 obtain ⟨T',hp',rfl⟩:=Q95 hp;have hlen':T'.length=T.length:=hp'.length_eq;have lts:∀ i o l,H[i]? = some o->o.live=true->θ i=some l->∀ c,o.occ l c->c<w.heap.size:=fun i o l hi ho hl c hc=>(hH.obj i o l hi hl).lt ho c hc;have hblk:l.blk<w.heap.size:=lts n _ l hn rfl hl0 _ rfl;have hnl:n<H.length:=(La.1 hn).1
 have other:∀ i o li,i≠n->H[i]? = some o->o.live=true->θ i=some li->∀ c,o.occ li c->w'.heap[c]? = w.heap[c]? := fun i o li hin hi hol hli c hc=>
  g4.block c (lts i o li hi hol hli c hc) (fun e=>hH.dist i n o _ li l hi hn hol rfl hli hl0 hin c hc (by cases e;rfl))
 have get:∀ i o,(H.set n (.cells (T'.flatMap Q7v)))[i]? = some o->(i=n∧o = .cells (T'.flatMap Q7v))∨(i≠n∧H[i]? = some o):=fun i o hi=>by
  by_cases e:n=i
  ·subst e;rw [Ll hnl] at hi;cases hi;exact .inl ⟨rfl,rfl⟩
  rw [Lj e] at hi;exact .inr ⟨fun h=>e h.symm,hi⟩
 have nl2:∀ c,NL θ H c->NL θ (H.set n (.cells (T'.flatMap Q7v))) c:=fun c hf i o li hi hol hθ hc=>by
  rcases get i o hi with ⟨rfl,rfl⟩ | ⟨k1,k2⟩
  ·exact hf i _ li hn rfl hθ hc
  exact hf i o li k2 hol hθ hc
 have nlb:∀ c,c<w.heap.size->NL θ H c->w'.heap[c]? = w.heap[c]? := fun c hc hf=>g4.block c hc (fun e=>hf n _ l hn rfl hl0 (by cases e;rfl));have free2:∀ c,c<w.heap.size->Qn θ H c->Qn θ (H.set n (.cells (T'.flatMap Q7v))) c∧w'.heap[c]? = w.heap[c]? := fun c hc hf=>⟨⟨hf.1,nl2 c hf.2⟩,nlb c hc hf.2⟩;refine ⟨_,_,_,θ,rfl,⟨T',hp',?_,rfl,rfl⟩,.p _ _ (.tuple [] #[] rfl (fun i x h=>by simp at h)),⟨?_,?_,?_,?_,?_,?_⟩,⟨⟨fun _ _ e=>e,rfl,fun c hc hf=>⟨nl2 c hf,nlb c hc hf⟩,g4.size,g4.os,g4.tape,g4.output⟩,by simp,fun _ _=>rfl⟩⟩
 ·exact (List.pairwise_map (f:=toC) (R:=fun a b:Tpc=>a.1≤b.1)).1 hpw
 ·intro i o li hi hθ
  rcases get i o hi with ⟨rfl,rfl⟩ | ⟨k1,k2⟩
  ·rw [hl0] at hθ;cases hθ;refine ⟨C',t,fz,g1,g2.trans c2,fun j hj=>c3 j (by rw [← g2];exact hj),by rw [Q76,hlen',← Q76,g2];exact c4,fun j x hj=>?_⟩
   have hjl:j<T'.length * 3:=by rw [← Q76];exact (La.1 hj).1
   obtain ⟨u,hu⟩:∃ u,((T'.map toC).flatMap Q2q)[j]? = some u:=⟨_,Lb (by rw [Qeb,Lp];exact hjl)⟩;have e1:=g3 j u hu
   have e2:C'.getD (l.off+j) Qj=((T'.map toC).flatMap Q2q).getD j Qj:=by
    rw [Lr,Le,hu];rw [Nn] at e1;rw [e1]
   rw [e2];exact ⟨(Qa4 T' j x hj).1 _ _ _,(Qa4 T' j x hj).2⟩
  exact (hH.obj i o li k2 hθ).mono (fun _ _ e=>e) free2 (fun hol c hc=>other i o li k1 k2 hol hθ c hc) g4.size
 ·intro i j oi oj li lj hi hj hil hjl hti htj hne c a1 a2
  rcases get i oi hi with ⟨rfl,rfl⟩ | ⟨k1,k2⟩<;>rcases get j oj hj with ⟨rfl,rfl⟩ | ⟨m1,m2⟩
  ·exact hne rfl
  ·exact hH.dist i j _ oj li lj hn m2 rfl hjl hti htj hne c a1 a2
  ·exact hH.dist i j oi _ li lj k2 hn hil rfl hti htj hne c a1 a2
  exact hH.dist i j oi oj li lj k2 m2 hil hjl hti htj hne c a1 a2
 ·intro i hi;exact hH.fresh i (by simpa using hi)
 ·intro i o li hi hol hθ c hc
  rcases get i o hi with ⟨rfl,rfl⟩ | ⟨k1,k2⟩
  ·exact hH.good i _ li hn rfl hθ c hc
  exact hH.good i o li k2 hol hθ c hc
 ·intro c hc;exact Mo (hH.badlt c hc) g4.size
 intro i Q q hi
 rcases get i _ hi with ⟨_,h⟩ | ⟨k1,k2⟩
 ·cases h
 exact hH.tok i Q q k2
end Go.Av.Tp
