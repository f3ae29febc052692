/- Part of FromsnBack: the law returns true; no condition. -/
import Derived.Test.YthbmcbacbhfnmaaGreatDoorTpTopB
import Derived.Test.YthbmcbacbhfnmaaGreatDoorRegE
import Derived.Test.YthbmcbacbhfnmaaGreatDoorChks
import Derived.Test.YthbmcbacbhfnmaaGreatDoorAvClosed4
import Derived.Test.YthbmcbacbhfnmaaGreatDoorAvSelf
set_option linter.all false
namespace Go.Av.Tp
open Go Go.Proofs
attribute [local irreducible] Q5j Wz Qq Qaj Qa1 Q0
set_option maxHeartbeats 1000000
variable {Gl:Nat->Option (List PV)}
section
variable {R:Reg} {c n:List UInt8} {id:Int} {i j:Nat} {C:RCl}
def Qz0 {g:List (Nat×Nat)} (hg:g.length=R.length) (h:Vk c 0 R=some (i,C)) (hT:C.all.length≤1000000000):Qq Tryz.prog Gl 17 [.ptr 0 0,.p (.str c)] (Qed R g i c C)
  (fun v H'=>∃ T':List RTp,T'.Perm C.all∧T'.Pairwise (fun a b=>a.1≤b.1)∧((T' = []∧v = .p .nilSlice∧H'=Qed R g i c C ++ [.cells [.map 4]])∨(T' ≠ []∧v = .slice 3 7 0 T'.length∧H'=Qed R g i c C ++ [.cells [.map 4],.cells (T'.flatMap Qec)]))):=by
 refine Q8 k17 ?_;refine (Q8 k49 ?_:Qq Tryz.prog Gl 49 _ _ _);refine Je (Ur R g 0 i hg h) ?_;refine (Q8 k51 ?_:Qq Tryz.prog Gl 51 _ _ _);refine (Vf (Z88 (H:=Qed R g i c C ++ [.cells [.map 4]]) (n:=6) (o:=0) (r:=4) (cs := [.map 4]) (T:=C.all) rfl rfl rfl hT) fun v H' hq=>?_:Qq Tryz.prog Gl 50 _ _ _);obtain ⟨T',hp,hq⟩:=hq
 rcases hq with ⟨rfl,rfl,rfl⟩ | ⟨hne,rfl,rfl⟩
 ·refine (Vf (Z26 _ Zkk) fun v H' hq=>?_:Qq Tryz.prog Gl 52 _ _ _);obtain ⟨rfl,rfl⟩:=hq;exact ⟨[],hp,.nil,.inl ⟨rfl,rfl,rfl⟩⟩
 refine (Vf (Za4 (H:=Qed R g i c C ++ [.cells [.map 4],.cells (T'.flatMap Qec)]) (n:=7) (T:=T') Zkk rfl (by rw [hp.length_eq];exact hT)) fun v H' hq=>?_:Qq Tryz.prog Gl 52 _ _ _);obtain ⟨T2,hp2,hs,rfl,rfl⟩:=hq;refine ⟨T2,hp2.trans hp,hs,.inr ⟨fun e=>hne (by subst e;exact Cb.1 (by rw [← hp2.length_eq];rfl)),?_,rfl⟩⟩;rw [hp2.length_eq];rfl
end
end Go.Av.Tp
namespace Go.Av.Tp
set_option maxHeartbeats 4000000
open Go Go.Proofs
variable {P:Program} {Gl:Nat->Option (List PV)}
def topC (t:RTp):List PV := [.int .i64 t.1,.str t.2.1,.bool t.2.2]
def Z0m (T:List RTp):T.flatMap Qec=Xh topC T:=by
 induction T with
 | nil=>rfl
 | cons a l ih=>rw [Mz,ih];rfl
def Zbd (P:Program) (Gl:Nat->Option (List PV)) (f:Nat) (R:Reg) (args:List PV) (Q:List RTp->Prop):Prop:=
 ∀ (H:List AObj) (b a:Nat),H[b]? = some (.ext R a)->∀ vs,FrzL (fun _=>False) H vs args ->
  Qq P Gl f (.ptr a 0::vs) H (fun v H'=>∃ T,Q T∧v = .p (.slice 3 (Q7 topC T))∧H'=H.set b .dead ++ [.ext R a])
def Qwe {f:Nat} {args:List PV} {R:Reg} {Q:List RTp->Prop} (hok:Qm8 P f=true)
  (hc:∀ (w:World) (la:Loc) (fp:Nat->Prop),RegRep w R la fp->∃ (F:List AObj) (m:Nat->Option Loc),m 0=some la∧0<F.length∧Lies w F m fp∧(∀ (i:Nat) Q e,F[i]? ≠ some (AObj.ext Q e))∧(∀ (i:Nat) (o:AObj),F[i]? = some o->o.live=true) ∧
   (∀ more:List AObj,Qyq w la fp (fun c=>∃ i l,m i=some l∧l.blk=c) R (F++more)) ∧
   Qq P Gl f (.ptr 0 0::args.map .p) F (fun v H'=>∃ (T:List RTp) (more:List AObj),Q T∧H'=F++more∧((T = []∧v = .p .nilSlice)∨(T ≠ []∧∃ n,v = .slice 3 (F.length+n) 0 T.length∧more[n]? = some (.cells (T.flatMap Qec)))))):Zbd P Gl f R args Q:=by
 intro H b a hb vs hvs;refine ⟨hok,fun θ w cargs hargs hH hG=>?_⟩;have hp0:=hargs.2 0 (.ptr a 0) rfl
 obtain ⟨la,hla,hcv⟩:∃ l,θ a=some l∧cargs.getD 0 Qr = .pointer (some ⟨l.blk,l.off+0,none⟩):=cp
 obtain ⟨lt,hlt⟩:=hH.tok b R a hb;obtain ⟨⟨la',hla',hrep⟩,hbnd⟩:=hH.obj b _ lt hb hlt;rw [hla] at hla';cases hla';have hocc:∀ c,lt.size.testBit c=true->¬ Qu θ H c:=fun c hc hf=>hf.2 b _ lt hb rfl hlt hc;obtain ⟨F,m,m0,hF0,hL,hnx,hlive,hcl,hcall⟩:=hc w la _ hrep
 let used:Nat->Prop:=fun c=>∃ i l,m i=some l∧l.blk=c
 have hused:∀ c,used c->lt.size.testBit c=true:=fun c ⟨i,l,h1,h2⟩=>h2▸hL.occ i l h1
 let bad0:Nat->Prop:=fun c=>c<w.heap.size∧¬ Qu θ H c∧¬ used c
 let θ0:Th:=⟨m,bad0⟩
 have hnlF:∀ c,¬ used c->NL θ0 F c:=fun c hc i o l hi hol hθ e=>hc ⟨i,l,hθ,(Q14 (hL.obj i o l hi hθ) c).1 e⟩;have hfree:∀ c,Qu θ H c->Qu θ0 F c:=fun c hf=>⟨fun hb=>hb.2.1 hf,hnlF c fun hu=>hocc c (hused c hu) hf⟩;have hmp:∀ x v,RelP (Qu θ H) w x v->RelP (Qu θ0 F) w x v:=fun x v h=>h.mono (fun c _ hf=>⟨hfree c hf,rfl⟩)
 have hH0:Hp θ0 F w:=ao
 have hG0:GlobOK Gl θ0 F w:=aH
 have hargs0:Q6h θ0 (Qu θ0 F) w (.ptr 0 0::args.map .p) cargs:=bt
 refine (hcall.2 θ0 w cargs hargs0 hH0 hG0).mono ?_
 rintro e w' ⟨v,cr,H',θ',rfl,⟨T,more,hQ,rfl,hres⟩,q2,q3,q4⟩
 obtain ⟨H2,⟨more2,rfl⟩,hkeep,hq3,hend⟩:∃ H2:List AObj,(∃ more2,H2=F++more2)∧(∀ c,NL θ' (F++more) c->NL θ' H2 c)∧Hp θ' H2 w' ∧
   (∀ S:Nat->Prop,(∀ c,Qu θ' (F++more) c->S c)->(∀ c,NL θ' H2 c->(∃ a o l,F.length≤a∧(F++more)[a]? = some o∧o.live=true ∧ θ' a=some l∧o.occ l c)->S c)->RelP S w' (.slice 3 (Q7 topC T)) cr):=by
  rcases hres with ⟨rfl,rfl⟩ | ⟨hne,n,rfl,hn⟩
  ·refine ⟨F++more,⟨more,rfl⟩,fun _ h=>h,q3,fun S _ _=>?_⟩
   cases q2 with | p _ _ q=>cases q;exact .sliceE 3 none 0 (fun _=>rfl)
  have hget:(F++more)[F.length+n]? = some (.cells (T.flatMap Qec)):=by grind
  have hfz:Frz (fun a=>a=F.length+n) (F++more) (.slice 3 (F.length+n) 0 T.length) (.slice 3 (Q7 topC T)):=frz_own (c:=topC) (fun _=>rfl) (by rw [hget,Z0m]) rfl rfl;obtain ⟨k1,_,_,k4⟩:=Qgp [F.length+n] q3
  exact aC
 have hl' : θ' 0=some la:=gC
 have hnl:∀ c,c<w.heap.size->¬ used c->NL θ' (F++more2) c∧w'.heap[c]? = w.heap[c]? := fun c hc hu=>⟨hkeep c (q4.nl c hc (hnlF c hu)).1,(q4.nl c hc (hnlF c hu)).2⟩;have hrep':=hcl more2 w' θ' hq3 hl' q4.size (fun c h1 h2=>⟨(hnl c (hbnd c h1) h2).2,(hnl c (hbnd c h1) h2).1⟩);obtain ⟨N,hN⟩:=Qin (fun c=>lt.size.testBit c=true∨¬ NL θ' (F++more2) c) w'.heap.size
 have hold:∀ c,N.testBit c=true->lt.size.testBit c=true∨w.heap.size≤c:=fun c h=>by
  grind
 have hlim:∀ c,¬ NL θ' (F++more2) c->c<w'.heap.size:=fun c h=>Lo fun hn=>h fun i o l hi hol hθ e=>hn ((hq3.obj i o l hi hθ).lt hol c e)
 have hrepN:RegRep w' R la (fun c=>N.testBit c=true):=hrep'.mono fun c h=>⟨(hN c).2 ⟨fT,h⟩,rfl⟩
 let n:=H.length
 let ln:Loc:=⟨0,0,N⟩
 have hbl:b<n:=(Ld.1 hb).1
 have hal:a<n:=dj
 have hl1:(H.set b .dead).length=n:=by grind
 have get:∀ (i:Nat) o,(H.set b .dead ++ [.ext R a])[i]? = some o->(i=n∧o = .ext R a)∨(i<n∧i=b∧o = .dead)∨(i<n∧i≠b∧H[i]? = some o):=by grind
 have hext:∀ i l,θ i=some l->upθ θ n ln i=some l:=fun i l h=> fc
 have tt:∀ i l,i<n->upθ θ n ln i=some l->θ i=some l:=fun i l hi h=> eZ
 have nl2:∀ c,c<w.heap.size->NL θ H c->NL (upθ θ n ln) (H.set b .dead ++ [.ext R a]) c∧w'.heap[c]? = w.heap[c]? := fun c hc hf=> ay
 have free2:∀ c,c<w.heap.size->Qu θ H c->Qu (upθ θ n ln) (H.set b .dead ++ [.ext R a]) c∧w'.heap[c]? = w.heap[c]? := fun c hc hf=>⟨⟨hf.1,(nl2 c hc hf.2).1⟩,(nl2 c hc hf.2).2⟩
 have apart:∀ i o l,i≠b->H[i]? = some o->o.live=true->θ i=some l->∀ c,o.occ l c->c<w.heap.size∧¬ lt.size.testBit c=true:=fun i o l hib hi hol hθ c hc=>
  ⟨(hH.obj i o l hi hθ).lt hol c hc,fun h=>hH.dist i b o _ l lt hi hb hol rfl hθ hlt hib c hc h⟩
 refine ⟨.p (.slice 3 (Q7 topC T)),cr,_,upθ θ n ln,rfl,⟨T,hQ,rfl,rfl⟩,.p _ _ ?_,⟨?_,?_,?_,?_,?_,?_⟩,⟨⟨hext,rfl,nl2,q4.size,q4.os,q4.tape,q4.output⟩,by simp,fun i hi=>?_⟩⟩
 ·exact aP
 ·exact aF
 ·exact ai
 ·exact bo
 ·exact aD
 ·exact d7
 ·exact bf
 exact eZ
end Go.Av.Tp
