/- Part of FromsnNames: the law returns true; no condition. -/
import Derived.Test.YtfgpphgmjcnleaaGreatDoorRegS
import Derived.Test.YtfgpphgmjcnleaaGreatDoorChks
import Derived.Test.YtfgpphgmjcnleaaGreatDoorAvTac
import Derived.Test.YtfgpphgmjcnleaaGreatDoorAvAbb
set_option linter.all false
section
open Go.IntKind (wrap)
namespace Go.Av
noncomputable section
open Go.Proofs
attribute [local irreducible] Vw Qv Q8 Q3g Q27 Q6
set_option maxHeartbeats 1000000
variable {Gl:Nat->Option (List PV)}
section
variable {l:List Int} {i j x y:Int}
theorem Qtd {n:Nat} {v:Int} (hj:idx l j=some y):∃ z,idx (l.set n v) j=some z:=by
 obtain ⟨h1,h2,h3⟩:=Q3o hj
 cases j with
 | ofNat m=>
  have:m<(l.set n v).length:=by
   have:=(La.1 h3).1;simpa using this
  exact ⟨_,Lc this⟩
 | negSucc m=>cases hj
theorem Qpj (hi:idx l i=some x) (hj:idx l j=some y):GC Tryz.prog Gl 392 [.slice 1 0 0 l.length,iI i,iI j] [.cells (Z0 (cI .i64) l)] (.p (.bool (Qme .lss x y))) [.cells (Z0 (cI .i64) l)]:=by
 refine Yv Qw5 (Lj _) ?_;refine Qa ?_;refine Uo (Vy hi rfl) ?_;refine Jo (c:=cI .i64) (e:=1) (off:=0) (n:=1) (fun _=>rfl) hi lb (by omega) ?_;refine Uo (Vy hj rfl) ?_;refine Jo (c:=cI .i64) (e:=1) (off:=0) (n:=1) (fun _=>rfl) hj lb (by omega) ?_;exact ⟨_,Qsp (rE rfl rN) rfl (roE (Yw _ _ _) roN)⟩
theorem Qps (hi:idx l i=some x) (hj:idx l j=some y):GC Tryz.prog Gl 393 [.slice 1 0 0 l.length,iI i,iI j] [.cells (Z0 (cI .i64) l)] (.tuple []) [.cells (Z0 (cI .i64) ((l.set i.toNat y).set j.toNat x))]:=by
 obtain ⟨z,hz⟩:=Qtd (n:=i.toNat) (v:=y) hj;refine Yv Z23 (Lj _) ?_;refine Qa ?_;refine Uo (Vy hj rfl) ?_;refine Jo (c:=cI .i64) (e:=1) (off:=0) (n:=1) (fun _=>rfl) hj lb (by omega) ?_;refine Uo (Vy hi rfl) ?_;refine Jo (c:=cI .i64) (e:=1) (off:=0) (n:=1) (fun _=>rfl) hi lb (by omega) ?_;refine Uo (Vy hi rfl) ?_;refine Uo (Vh (c:=cI .i64) (e:=1) (off:=0) (n:=1) (fun _=>rfl) hi (by omega) rfl lb) ?_;refine Vk (c:=cI .i64) (e:=1) (off:=0) (fun _=>rfl) hi y (by omega) rfl lb ?_;refine Uo (Vy hj rfl) ?_;refine Uo (Vh (c:=cI .i64) (e:=1) (off:=0) (n:=1) (fun _=>rfl) hz (by omega) rfl lb) ?_;refine Vk (c:=cI .i64) (e:=1) (off:=0) (fun _=>rfl) hz x (by omega) rfl lb ?_;exact ⟨_,Qsp (rE rfl rN) rfl (roE (Yw _ _ _) roN)⟩
def hUp:Nat->List Int×Nat->Option (List Int)
 | 0,_=>none
 | k+1,s=>if s.2<4611686018427387904 then (if (s.2 - 1) / 2=s.2 then some s.1 else match s.1[(s.2 - 1) / 2]?,s.1[s.2]? with
  | some x,some y=>if y<x then hUp k ((s.1.set ((s.2 - 1) / 2) y).set s.2 x,(s.2 - 1) / 2) else some s.1
  | _,_=>none) else none
def upT (j:Nat):List AV := .iface 116 (.ptr 2 2)::iI j :: .any::a16 (a4 [])
theorem Qt2 {n:Nat} {l:List Int} {x:Int} (h:l[n]? = some x):idx l (n:Int)=some x:=h
theorem Qu1 {n:Nat} (h:n<9223372036854775808):wrap .i64 (n:Int)=n:=by rw [IntKind.wrap_i64];omega
theorem Qpw {j:Nat} (h:j<4611686018427387904):wrap .i64 ((wrap .i64 ((j:Int) - 1)).tdiv 2)=(((j - 1) / 2:Nat):Int):=by
 rcases Nat.eq_zero_or_pos j with rfl | h0
 ·rfl
 rw [show wrap .i64 ((j:Int) - 1)=((j - 1:Nat):Int) by rw [IntKind.wrap_i64];omega];rw [show (((j - 1:Nat):Int).tdiv 2)=(((j - 1) / 2:Nat):Int) from (Int.ofNat_tdiv (j - 1) 2).symm];exact Qu1 (by omega)
section
variable {o0 o1 o3 o4 o5 o6 o7 o9 oA:AObj} {m1 m2 nx:AV}
abbrev Qr9 (o0 o1 o3 o4 o5 o6 o7 o9 oA:AObj) (m1 m2 nx:AV) (n:Nat) (l:List Int):List AObj := [o0,o1,.cells [m1,m2,.slice 1 11 0 n,nx],o3,o4,o5,o6,o7,.dead,o9,oA,.cells (Z0 (cI .i64) l)]
abbrev upH (o0 o1 o3 o4 o5 o6 o7 o9 oA:AObj) (m1 m2 nx:AV) (l:List Int):List AObj:=Qr9 o0 o1 o3 o4 o5 o6 o7 o9 oA m1 m2 nx l.length l
theorem Qln (h:([o0,o1,.cells [m1,m2,nx],o3,o4,o5,o6,o7,o9,oA].all (Yn 12))=true) (l:List Int):((upH o0 o1 o3 o4 o5 o6 o7 o9 oA m1 m2 nx l).all (Yn (upH o0 o1 o3 o4 o5 o6 o7 o9 oA m1 m2 nx l).length))=true:=by
 simp only [Cg,List.all_nil,Lb,Bool.and_true] at h;obtain ⟨h0,h1,h2,h3,h4,h5,h6,h7,h9,hA⟩:=h;refine roE h0 (roE h1 (roE ?_ (roE h3 (roE h4 (roE h5 (roE h6 (roE h7 (roE rfl (roE h9 (roE hA (roE (Yw _ _ _) roN)))))))))));simp only [Yn,refsLt.refsLts,Lb] at h2 ⊢;exact ⟨h2.1,h2.2.1,rfl,h2.2.2⟩
theorem Qsr (hr:([o0,o1,.cells [m1,m2,nx],o3,o4,o5,o6,o7,o9,oA].all (Yn 12))=true) {N j:Nat} {l l':List Int} (h:hUp N (l,j)=some l') :
  Q8 Tryz.prog Gl 92 [.iface 116 (.ptr 2 2),iI j] (upH o0 o1 o3 o4 o5 o6 o7 o9 oA m1 m2 nx l) (fun v H'=>v = .tuple []∧H'=upH o0 o1 o3 o4 o5 o6 o7 o9 oA m1 m2 nx l'):=by
 refine Q3 k92 ?_
 refine lpC (fun s=>upT s.2) (fun s=>upH o0 o1 o3 o4 o5 o6 o7 o9 oA m1 m2 nx s.1) hUp (l,j) h (fun i=>i) (Qsp (by repeat' first | exact rN | refine rA ?_ | refine rE rfl ?_) rfl (Qln hr l)) (fun k s hk=>?_)
 obtain ⟨l,j⟩:=s;simp only [hUp] at hk;split at hk
 ·rename_i hj;have hw:=Qpw hj
  have e1:Qme .eql (wrap .i64 ((wrap .i64 ((j:Int) - 1)).tdiv 2)) (j:Int)=decide ((j - 1) / 2=j):=by
   rw [hw,cmpX_eq];unfold Q6
   by_cases h:(j - 1) / 2=j
   ·rw [h];simp
   rw [Ab h];simp;omega
  have upfin:∀ (l1 l2:List Int) (n:Nat),Q8w (rho [11]) (Qr9 o0 o1 o3 o4 o5 o6 o7 o9 oA m1 m2 nx n l1) [.cells (Z0 (cI .i64) l1)] [.cells (Z0 (cI .i64) l2)] 0 (Qr9 o0 o1 o3 o4 o5 o6 o7 o9 oA m1 m2 nx n l2):=fun l1 l2 n=>
   fK rfl rfl (fK rfl rfl (fK rfl rfl (fK rfl rfl (fK rfl rfl (fK rfl rfl (fK rfl rfl (fK rfl rfl (fD (fK rfl rfl (fK rfl rfl (fO 0 rfl rfl rfl fN)))))))))))
  split at hk
  ·rename_i h2;refine ifT (e1.trans (Ad h2)) ?_;cases hk;exact ⟨rfl,rfl⟩
  rename_i h2;refine ifF (e1.trans (Ab h2)) ?_;split at hk
  ·rename_i x y hx hy;refine Qdg (Qpj (Qt2 hy) (Qt2 hx)) ⟨rho [11],upH o0 o1 o3 o4 o5 o6 o7 o9 oA m1 m2 nx l,.p (.bool (Qme .lss y x)),⟨rL rfl rfl (rE rfl (rE (by rw [hw];rfl) rN)),hO rfl hN,rfl,rfl,roE (Yw _ _ _) roN,rfl,upfin l l l.length,rfl⟩,?_⟩;split at hk
   ·rename_i hlt;refine ifF (by rw [cF (b:=true) (by unfold Q6;simpa using hlt)];rfl) ?_;refine Qdg (Qps (Qt2 hx) (Qt2 hy)) ⟨rho [11],Qr9 o0 o1 o3 o4 o5 o6 o7 o9 oA m1 m2 nx l.length ((l.set ((j - 1) / 2) y).set j x),.tuple [],⟨rL rfl rfl (rE (by rw [hw];rfl) (rE rfl rN)),hO rfl hN,rfl,rfl,roE (Yw _ _ _) roN,rfl,upfin l _ l.length,rfl⟩,?_⟩;refine ⟨(k,((l.set ((j - 1) / 2) y).set j x,(j - 1) / 2)),hk,Ll _,fun i=>i,?_⟩
    have e:Qr9 o0 o1 o3 o4 o5 o6 o7 o9 oA m1 m2 nx l.length ((l.set ((j - 1) / 2) y).set j x)=upH o0 o1 o3 o4 o5 o6 o7 o9 oA m1 m2 nx ((l.set ((j - 1) / 2) y).set j x):=by simp [upH]
    rw [e];refine Qsp ?_ rfl (Qln hr _);refine rE rfl (rE (by rw [hw];rfl) ?_)
    repeat' first | exact rN | refine rA ?_
   rename_i hlt;refine ifT (by rw [cF (b:=false) (by unfold Q6;simpa using hlt)];rfl) ?_;cases hk;exact ⟨rfl,rfl⟩
  cases hk
 cases hk
def Qn9 (l:List Int) (x:Int):Option (List Int):=if l.length≤1000000000 then hUp 64 (l ++ [x],l.length) else none
abbrev puH (o0 o1 o3 o4 o5 o6 o7 o9:AObj) (m1 m2 nx:AV) (l:List Int):List AObj := [o0,o1,.cells [m1,m2,.slice 1 8 0 l.length,nx],o3,o4,o5,o6,o7,.cells (Z0 (cI .i64) l),o9]
theorem Q8x (hr:([o0,o1,.cells [m1,m2,nx],o3,o4,o5,o6,o7,o9].all (Yn 12))=true) {l l':List Int} {x:Int} (h:Qn9 l x=some l') :
  Q8 Tryz.prog Gl 52 [.iface 116 (.ptr 2 2),.iface 3 (iI x)] (puH o0 o1 o3 o4 o5 o6 o7 o9 m1 m2 nx l) (fun v H'=>v = .tuple []∧H'=upH o0 o1 o3 o4 o5 o6 o7 o9 (.cells [iI x]) m1 m2 nx l'):=by
 unfold Qn9 at h;split at h
 ·rename_i hl;refine Q3 k52 ?_;refine (Q3 Qyx ?_:Q8 Tryz.prog Gl 405 _ _ _);refine Uo (Xg (c:=cI .i64) (e:=1) (fun _=>rfl) rfl (by simp;omega)) ?_;refine U1 (c:=cI .i64) [x] rfl ?_;refine (Q3 Z3u ?_:Q8 Tryz.prog Gl 391 _ _ _)
  have e:wrap .i64 (((l.length+1:Nat):Int) - 1)=((l.length:Nat):Int):=by rw [IntKind.wrap_i64];omega
  show Q8 Tryz.prog Gl 92 [_,.p (.int .i64 (wrap .i64 (((l.length+1:Nat):Int) - 1)))] _ _;rw [e]
  have hr':([o0,o1,.cells [m1,m2,nx],o3,o4,o5,o6,o7,o9,.cells [iI x]].all (Yn 12))=true:=by
   simp only [Cg,List.all_nil,Bool.and_true,Lb] at hr ⊢;obtain ⟨h0,h1,h2,h3,h4,h5,h6,h7,h8⟩:=hr;exact ⟨h0,h1,h2,h3,h4,h5,h6,h7,h8,rfl⟩
  have hu:=Qsr (Gl:=Gl) hr' h;rw [show upH o0 o1 o3 o4 o5 o6 o7 o9 (.cells [iI x]) m1 m2 nx (l ++ [x])=Qr9 o0 o1 o3 o4 o5 o6 o7 o9 (.cells [iI x]) m1 m2 nx (l.length+1) (l ++ [x]) by simp] at hu;refine Qo hu ?_
  rintro v H' ⟨rfl,rfl⟩
  exact ⟨rfl,rfl⟩
 cases h
end
end
end
end Go.Av
end
namespace Go.Av
noncomputable section
theorem Qce {α:Type} (l:List α) (i j:Nat):(l.eraseIdx i)[j]? = l[if j<i then j else j+1]? := by
 rw [Bt]
 split<;>rfl
theorem Qmw {R:Reg} {g:List (Nat×Nat)} (hg:g.length=R.length) (i:Nat):gm (R.eraseIdx i) (g.eraseIdx i)=(gm R g).eraseIdx i:=by
 apply Mb;intro j
 have hlen:(g.eraseIdx i).length=(R.eraseIdx i).length:=by rw [Nv,Nv,hg]
 rw [Qce]
 cases hj:(R.eraseIdx i)[j]? with
 | none=>
  rw [Md (by rw [Q25 hlen];exact Bq.1 hj)];rw [Qce] at hj;rw [Md (by rw [Q25 hg];exact Bq.1 hj)]
 | some q=>
  rw [Q50 hlen hj];rw [Qce] at hj;rw [Q50 hg hj];simp only [Le,Qce]
section
variable {P:Program} {Gl:Nat->Option (List PV)}
theorem Qo6 {f:Nat} {args:List PV} {r:PV} {R:Reg} {i:Nat} {k:List UInt8} {C:RCl} (hok:Qd0 P f=true) (hr:Wf r=true) (hi:R[i]? = some (k,C))
  (h:∀ g:List (Nat×Nat),g.length=R.length->Q8 P Gl f (.ptr 0 0::args.map .p) (Q41 R g i k C) (fun v H'=>v = .p r∧H'[0]? = some (.cells [.map 1])∧H'[1]? = some (.map ((gm R g).eraseIdx i)))):Ug P Gl f R args r (R.eraseIdx i):=by
 have hil:=(La.1 hi).1;refine Qdn hok hr fun w la fp hrep=>?_;obtain ⟨g,mt,ms,ft,fs,p⟩:=hrep.parts;obtain ⟨hci,hfi⟩:=p.cl i _ hi
 refine ⟨Q41 R g i k C,mF mt (ms i),by simp only [mF];rw [Af (by omega)];exact p.first,by simp [Q41],Qd4 p hi,Q7f R g i k C,Qo (h g p.len) fun v H' hv=>⟨hv.1,?_⟩⟩
 obtain ⟨_,e0,e1⟩:=hv;intro w' θ' hH h0 _ hkeep
 have hlen:(g.eraseIdx i).length=(R.eraseIdx i).length:=by rw [Nv,Nv,p.len]
 have r0:=hH.obj 0 _ la e0 h0
 obtain ⟨l1,hl1⟩:∃ l1,θ' 1=some l1:=by
  obtain ⟨C,t,fz,q1,q2,q3,q4,q5⟩:=r0;have:=(q5 0 (.map 1) rfl).1;generalize C.getD (la.off+0) Qc=vv at this
  cases this with
  | map _ l hl=>exact ⟨l,hl⟩
 have r1:=hH.obj 1 _ l1 e1 hl1
 let sk:Nat->Nat:=fun j=>if j<i then j else j+1
 have ski:∀ j,sk j≠i:=fun j=>by simp only [sk];split<;>omega
 have skn:∀ a b,a≠b->sk a≠sk b:=fun a b hab=>by simp only [sk];split<;>split<;>omega
 let mt':Nat->Option Loc:=fun i=>if i=0 then some la else if i=1 then some l1 else none
 let ft':Nat->Prop:=fun c=>c=la.blk∨c=l1.blk
 have occ01:∀ c,ft' c->¬ NL θ' H' c:=fun c hc hn=>by
  rcases hc with rfl | rfl
  ·exact hn 0 _ la e0 rfl h0 rfl
  exact hn 1 _ l1 e1 rfl hl1 rfl
 have key:∀ i l,mt' i=some l->(i=0∧l=la)∨(i=1∧l=l1):=fun i l h=>by
  by_cases h0:i=0
  ·subst h0;exact .inl ⟨rfl,by simpa [mt'] using h.symm⟩
  by_cases h1:i=1
  ·subst h1;exact .inr ⟨rfl,by simpa [mt'] using h.symm⟩
  simp [mt',h0,h1] at h
 have oth:∀ j q,(R.eraseIdx i)[j]? = some q->(ClRep w q.2 ((g.eraseIdx i).getD j (0,0)) (ms (sk j)) (fun c=>fs (sk j) c∧∃ a l,ms (sk j) a=some l∧l.blk=c)∧∀ c,fs (sk j) c->fp c)∧sk j<R.length ∧
   ∀ c,(fs (sk j) c∧∃ a l,ms (sk j) a=some l∧l.blk=c)->¬ ∃ i' l,mF mt (ms i) i'=some l∧l.blk=c:=fun j q hq=>by
  rw [Qce] at hq;obtain ⟨g1,g2⟩:=p.cl (sk j) q hq
  have hgd:(g.eraseIdx i).getD j (0,0)=g.getD (sk j) (0,0):=by rw [Le,Qce,← Le]
  rw [hgd]
  refine ⟨⟨⟨⟨g1.lies.obj,fun a l ha=>⟨g1.lies.occ a l ha,a,l,ha,rfl⟩,g1.lies.fresh,g1.lies.dist⟩,g1.first⟩,fun c hc=>(g2 c hc).1⟩,(La.1 hq).1,fun c hc=>?_⟩
  rintro ⟨a,l,ha,hac⟩
  by_cases h2:a<2
  ·simp only [mF,Af h2] at ha;exact (g2 c hc.1).2 (hac▸p.top.occ a l ha)
  simp only [mF,Ae h2] at ha;exact p.dis (sk j) i c (La.1 hq).1 hil (ski j) hc.1 (hac▸hci.lies.occ _ l ha)
 refine ⟨g.eraseIdx i,mt',fun j=>ms (sk j),ft',fun j c=>fs (sk j) c∧∃ a l,ms (sk j) a=some l∧l.blk=c,hlen,rfl,⟨fun i0 o l hio hl=>?_,fun i l hl=>?_,fun i hlen=>?_,fun i j li lj h1 h2 hne e=>?_⟩,fun c hc => .inr (occ01 c hc),fun j q hq=>?_,fun a b c ha hb hne h1 h2=>?_⟩
 ·rcases key i0 l hl with ⟨rfl,rfl⟩ | ⟨rfl,rfl⟩
  ·cases hio;obtain ⟨C,t,fz,q1,q2,q3,q4,q5⟩:=r0;refine ⟨C,t,fz,q1,q2,q3,q4,fun j v hj=>?_⟩
   match j,hj with
   | 0,hj=>
    cases hj;refine ⟨?_,(q5 0 (.map 1) rfl).2⟩;have:=(q5 0 (.map 1) rfl).1;generalize C.getD (l.off+0) Qc=vv at this
    cases this with
    | map _ l2 hl2=>
     rw [hl1] at hl2;cases hl2;exact .map 1 l1 (by simp [Q4u,mt'])
   | j+1,hj=>simp at hj
  have ho:o = .map (gm (R.eraseIdx i) (g.eraseIdx i)):=(Am hio).symm;subst ho;rw [← Qmw p.len] at r1;obtain ⟨E,clk,q1,q2,q4,q3⟩:=r1;refine ⟨E,clk,q1,q2,q4,fun x kk v hx=>?_⟩
  have hxl:x<(R.eraseIdx i).length:=by have:=(La.1 hx).1;rwa [Q25 hlen] at this
  have hx':=Q50 hlen (Lc hxl);obtain ⟨s1,s2⟩:=q3 x kk v hx;rw [hx] at hx';cases hx';exact ⟨J5 (.str _) _ rfl s1,by generalize (E.getD x default).val=vv at s2;cases s2;exact .gptr _ _⟩
 ·rcases key i l hl with ⟨rfl,rfl⟩ | ⟨rfl,rfl⟩
  ·exact .inl rfl
  exact .inr rfl
 ·have:2≤i:=hlen;simp only [mt'];rw [Ae (by omega),Ae (by omega)]
 ·have hd:=hH.dist 0 1 _ _ la l1 e0 e1 rfl rfl h0 hl1 (by omega)
  rcases key i li h1 with ⟨rfl,rfl⟩ | ⟨rfl,rfl⟩<;>rcases key j lj h2 with ⟨rfl,rfl⟩ | ⟨rfl,rfl⟩
  ·exact hne rfl
  ·exact hd _ rfl e.symm
  ·exact hd _ rfl e
  exact hne rfl
 ·obtain ⟨⟨g1,g2⟩,_,nu⟩:=oth j q hq
  exact ⟨⟨g1.lies.mono fun c hc=>⟨hc,(hkeep c (g2 c hc.1) (nu c hc)).1⟩,g1.first⟩,fun c hc=>⟨.inl (g2 c hc.1),fun ht=>occ01 c ht (hkeep c (g2 c hc.1) (nu c hc)).2⟩⟩
 obtain ⟨_,a2,_⟩:=oth a _ (Lc ha);obtain ⟨_,b2,_⟩:=oth b _ (Lc hb);exact p.dis (sk a) (sk b) c a2 b2 (skn a b hne) h1.1 h2.1
theorem Z8g {f:Nat} {args:List PV} {r:PV} {R:Reg} {i:Nat} {k:List UInt8} {C:RCl} (hr:Wf r=true) (hi:Ya k 0 R=some (i,C))
  (h:∀ g:List (Nat×Nat),g.length=R.length->Q8 P Gl f (.ptr 0 0::args.map .p) (Q41 R g i k C) (fun v H'=>Frz (fun _=>False) H' v r∧H'[0]? = some (.cells [.map 1])∧H'[1]? = some (.map ((gm R g).eraseIdx i)))):Ug P Gl f R args r (R.eraseIdx i):=
 Qo6 (Q8t (h (List.replicate R.length (0,0)) (by simp))) hr (by have:=(Gh R 0 i C hi).2;rwa [Cr] at this) fun g hg=>Q4h (h g hg)
end
end
end Go.Av
