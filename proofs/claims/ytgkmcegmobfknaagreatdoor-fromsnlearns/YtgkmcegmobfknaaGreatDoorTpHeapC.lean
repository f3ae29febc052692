/- Part of FromsnLearns: the law returns true; no condition. -/
import Derived.Test.YtgkmcegmobfknaaGreatDoorRegS
import Derived.Test.YtgkmcegmobfknaaGreatDoorChks
import Derived.Test.YtgkmcegmobfknaaGreatDoorAvClosed4
import Derived.Test.YtgkmcegmobfknaaGreatDoorAvSelf
set_option linter.all false
section
open Go.IntKind (wrap)
namespace Go.Av
noncomputable section
open Go.Proofs
attribute [local irreducible] Ga Wb Qd Q4s Q3q Q2
set_option maxHeartbeats 1000000
variable {Gl:Nat->Option (List PV)}
section
variable {l:List Int} {i j x y:Int}
theorem Z1l {n:Nat} {v:Int} (hj:idx l j=some y):∃ z,idx (l.set n v) j=some z:=by
 obtain ⟨h1,h2,h3⟩:=Q53 hj
 cases j with
 | ofNat m=>
  have:m<(l.set n v).length:=by
   have:=(La.1 h3).1;simpa using this
  exact ⟨_,Lb this⟩
 | negSucc m=>cases hj
theorem Qxd (hi:idx l i=some x) (hj:idx l j=some y):GC Tryz.prog Gl 196 [.slice 1 0 0 l.length,iI i,iI j] [.cells (Yl (cI .i64) l)] (.p (.bool (Qn8 .lss x y))) [.cells (Yl (cI .i64) l)]:=by
 refine Vl Z4q (Li _) ?_;refine Qm ?_;refine Q0n (G9 hi rfl) ?_;refine Q6t (c:=cI .i64) (e:=1) (off:=0) (n:=1) (fun _=>rfl) hi lb (by omega) ?_;refine Q0n (G9 hj rfl) ?_;refine Q6t (c:=cI .i64) (e:=1) (off:=0) (n:=1) (fun _=>rfl) hj lb (by omega) ?_;exact ⟨_,Z0m (rE rfl rN) rfl (roE (Vk _ _ _) roN)⟩
theorem Qwr (hi:idx l i=some x) (hj:idx l j=some y):GC Tryz.prog Gl 197 [.slice 1 0 0 l.length,iI i,iI j] [.cells (Yl (cI .i64) l)] (.tuple []) [.cells (Yl (cI .i64) ((l.set i.toNat y).set j.toNat x))]:=by
 obtain ⟨z,hz⟩:=Z1l (n:=i.toNat) (v:=y) hj;refine Vl Z5y (Li _) ?_;refine Qm ?_;refine Q0n (G9 hj rfl) ?_;refine Q6t (c:=cI .i64) (e:=1) (off:=0) (n:=1) (fun _=>rfl) hj lb (by omega) ?_;refine Q0n (G9 hi rfl) ?_;refine Q6t (c:=cI .i64) (e:=1) (off:=0) (n:=1) (fun _=>rfl) hi lb (by omega) ?_;refine Q0n (G9 hi rfl) ?_;refine Q0n (Q08 (c:=cI .i64) (e:=1) (off:=0) (n:=1) (fun _=>rfl) hi (by omega) rfl lb) ?_;refine Q06 (c:=cI .i64) (e:=1) (off:=0) (fun _=>rfl) hi y (by omega) rfl lb ?_;refine Q0n (G9 hj rfl) ?_;refine Q0n (Q08 (c:=cI .i64) (e:=1) (off:=0) (n:=1) (fun _=>rfl) hz (by omega) rfl lb) ?_;refine Q06 (c:=cI .i64) (e:=1) (off:=0) (fun _=>rfl) hz x (by omega) rfl lb ?_;exact ⟨_,Z0m (rE rfl rN) rfl (roE (Vk _ _ _) roN)⟩
def hUp:Nat->List Int×Nat->Option (List Int)
 | 0,_=>none
 | k+1,s=>if s.2<4611686018427387904 then (if (s.2 - 1) / 2=s.2 then some s.1 else match s.1[(s.2 - 1) / 2]?,s.1[s.2]? with
  | some x,some y=>if y<x then hUp k ((s.1.set ((s.2 - 1) / 2) y).set s.2 x,(s.2 - 1) / 2) else some s.1
  | _,_=>none) else none
def upT (j:Nat):List AV := .iface 125 (.ptr 2 2)::iI j :: .any::a16 (a4 [])
theorem Z0z {n:Nat} {l:List Int} {x:Int} (h:l[n]? = some x):idx l (n:Int)=some x:=h
theorem Z17 {n:Nat} (h:n<9223372036854775808):wrap .i64 (n:Int)=n:=by rw [IntKind.wrap_i64];omega
theorem Qvg {j:Nat} (h:j<4611686018427387904):wrap .i64 ((wrap .i64 ((j:Int) - 1)).tdiv 2)=(((j - 1) / 2:Nat):Int):=by
 rcases Nat.eq_zero_or_pos j with rfl | h0
 ·rfl
 rw [show wrap .i64 ((j:Int) - 1)=((j - 1:Nat):Int) by rw [IntKind.wrap_i64];omega];rw [show (((j - 1:Nat):Int).tdiv 2)=(((j - 1) / 2:Nat):Int) from (Int.ofNat_tdiv (j - 1) 2).symm];exact Z17 (by omega)
section
variable {o0 o1 o3 o4 o5 o6 o7 o9 oA:AObj} {m1 m2 nx:AV}
abbrev Qy9 (o0 o1 o3 o4 o5 o6 o7 o9 oA:AObj) (m1 m2 nx:AV) (n:Nat) (l:List Int):List AObj := [o0,o1,.cells [m1,m2,.slice 1 11 0 n,nx],o3,o4,o5,o6,o7,.dead,o9,oA,.cells (Yl (cI .i64) l)]
abbrev upH (o0 o1 o3 o4 o5 o6 o7 o9 oA:AObj) (m1 m2 nx:AV) (l:List Int):List AObj:=Qy9 o0 o1 o3 o4 o5 o6 o7 o9 oA m1 m2 nx l.length l
theorem Qqd (h:([o0,o1,.cells [m1,m2,nx],o3,o4,o5,o6,o7,o9,oA].all (V3 12))=true) (l:List Int):((upH o0 o1 o3 o4 o5 o6 o7 o9 oA m1 m2 nx l).all (V3 (upH o0 o1 o3 o4 o5 o6 o7 o9 oA m1 m2 nx l).length))=true:=by
 simp only [Cv,List.all_nil,Lc,Ek] at h;obtain ⟨h0,h1,h2,h3,h4,h5,h6,h7,h9,hA⟩:=h;refine roE h0 (roE h1 (roE ?_ (roE h3 (roE h4 (roE h5 (roE h6 (roE h7 (roE rfl (roE h9 (roE hA (roE (Vk _ _ _) roN)))))))))));simp only [V3,refsLt.refsLts,Lc] at h2 ⊢;exact ⟨h2.1,h2.2.1,rfl,h2.2.2⟩
theorem Qyp (hr:([o0,o1,.cells [m1,m2,nx],o3,o4,o5,o6,o7,o9,oA].all (V3 12))=true) {N j:Nat} {l l':List Int} (h:hUp N (l,j)=some l') :
  Qd Tryz.prog Gl 100 [.iface 125 (.ptr 2 2),iI j] (upH o0 o1 o3 o4 o5 o6 o7 o9 oA m1 m2 nx l) (fun v H'=>v = .tuple []∧H'=upH o0 o1 o3 o4 o5 o6 o7 o9 oA m1 m2 nx l'):=by
 refine Q6 Z69 ?_
 refine lpC (fun s=>upT s.2) (fun s=>upH o0 o1 o3 o4 o5 o6 o7 o9 oA m1 m2 nx s.1) hUp (l,j) h (fun i=>i) (Z0m (by repeat' first | exact rN | refine rA ?_ | refine rE rfl ?_) rfl (Qqd hr l)) (fun k s hk=>?_)
 obtain ⟨l,j⟩:=s;simp only [hUp] at hk;split at hk
 ·rename_i hj;have hw:=Qvg hj
  have e1:Qn8 .eql (wrap .i64 ((wrap .i64 ((j:Int) - 1)).tdiv 2)) (j:Int)=decide ((j - 1) / 2=j):=by
   rw [hw,cmpX_eq];unfold Q2
   by_cases h:(j - 1) / 2=j
   ·rw [h];simp
   rw [Ab h];simp;omega
  have upfin:∀ (l1 l2:List Int) (n:Nat),Qa3 (rho [11]) (Qy9 o0 o1 o3 o4 o5 o6 o7 o9 oA m1 m2 nx n l1) [.cells (Yl (cI .i64) l1)] [.cells (Yl (cI .i64) l2)] 0 (Qy9 o0 o1 o3 o4 o5 o6 o7 o9 oA m1 m2 nx n l2):=fun l1 l2 n=>
   fK rfl rfl (fK rfl rfl (fK rfl rfl (fK rfl rfl (fK rfl rfl (fK rfl rfl (fK rfl rfl (fK rfl rfl (fD (fK rfl rfl (fK rfl rfl (fO 0 rfl rfl rfl fN)))))))))))
  split at hk
  ·rename_i h2;refine ifT (e1.trans (Ad h2)) ?_;cases hk;exact ⟨rfl,rfl⟩
  rename_i h2;refine ifF (e1.trans (Ab h2)) ?_;split at hk
  ·rename_i x y hx hy;refine Qfk (Qxd (Z0z hy) (Z0z hx)) ⟨rho [11],upH o0 o1 o3 o4 o5 o6 o7 o9 oA m1 m2 nx l,.p (.bool (Qn8 .lss y x)),⟨rL rfl rfl (rE rfl (rE (by rw [hw];rfl) rN)),hO rfl hN,rfl,rfl,roE (Vk _ _ _) roN,rfl,upfin l l l.length,rfl⟩,?_⟩;split at hk
   ·rename_i hlt;refine ifF (by rw [cF (b:=true) (by unfold Q2;simpa using hlt)];rfl) ?_;refine Qfk (Qwr (Z0z hx) (Z0z hy)) ⟨rho [11],Qy9 o0 o1 o3 o4 o5 o6 o7 o9 oA m1 m2 nx l.length ((l.set ((j - 1) / 2) y).set j x),.tuple [],⟨rL rfl rfl (rE (by rw [hw];rfl) (rE rfl rN)),hO rfl hN,rfl,rfl,roE (Vk _ _ _) roN,rfl,upfin l _ l.length,rfl⟩,?_⟩;refine ⟨(k,((l.set ((j - 1) / 2) y).set j x,(j - 1) / 2)),hk,Lg _,fun i=>i,?_⟩
    have e:Qy9 o0 o1 o3 o4 o5 o6 o7 o9 oA m1 m2 nx l.length ((l.set ((j - 1) / 2) y).set j x)=upH o0 o1 o3 o4 o5 o6 o7 o9 oA m1 m2 nx ((l.set ((j - 1) / 2) y).set j x):=by simp [upH]
    rw [e];refine Z0m ?_ rfl (Qqd hr _);refine rE rfl (rE (by rw [hw];rfl) ?_)
    repeat' first | exact rN | refine rA ?_
   rename_i hlt;refine ifT (by rw [cF (b:=false) (by unfold Q2;simpa using hlt)];rfl) ?_;cases hk;exact ⟨rfl,rfl⟩
  cases hk
 cases hk
def Qmc (l:List Int) (x:Int):Option (List Int):=if l.length≤1000000000 then hUp 64 (l ++ [x],l.length) else none
abbrev puH (o0 o1 o3 o4 o5 o6 o7 o9:AObj) (m1 m2 nx:AV) (l:List Int):List AObj := [o0,o1,.cells [m1,m2,.slice 1 8 0 l.length,nx],o3,o4,o5,o6,o7,.cells (Yl (cI .i64) l),o9]
theorem Q9p (hr:([o0,o1,.cells [m1,m2,nx],o3,o4,o5,o6,o7,o9].all (V3 12))=true) {l l':List Int} {x:Int} (h:Qmc l x=some l') :
  Qd Tryz.prog Gl 66 [.iface 125 (.ptr 2 2),.iface 3 (iI x)] (puH o0 o1 o3 o4 o5 o6 o7 o9 m1 m2 nx l) (fun v H'=>v = .tuple []∧H'=upH o0 o1 o3 o4 o5 o6 o7 o9 (.cells [iI x]) m1 m2 nx l'):=by
 unfold Qmc at h;split at h
 ·rename_i hl;refine Q6 k66 ?_;refine (Q6 Z3y ?_:Qd Tryz.prog Gl 200 _ _ _);refine Q0n (Ve (c:=cI .i64) (e:=1) (fun _=>rfl) rfl (by simp;omega)) ?_;refine Jr (c:=cI .i64) [x] rfl ?_;refine (Q6 Z4v ?_:Qd Tryz.prog Gl 195 _ _ _)
  have e:wrap .i64 (((l.length+1:Nat):Int) - 1)=((l.length:Nat):Int):=by rw [IntKind.wrap_i64];omega
  show Qd Tryz.prog Gl 100 [_,.p (.int .i64 (wrap .i64 (((l.length+1:Nat):Int) - 1)))] _ _;rw [e]
  have hr':([o0,o1,.cells [m1,m2,nx],o3,o4,o5,o6,o7,o9,.cells [iI x]].all (V3 12))=true:=by
   simp only [Cv,List.all_nil,Ek,Lc] at hr ⊢;obtain ⟨h0,h1,h2,h3,h4,h5,h6,h7,h8⟩:=hr;exact ⟨h0,h1,h2,h3,h4,h5,h6,h7,h8,rfl⟩
  have hu:=Qyp (Gl:=Gl) hr' h;rw [show upH o0 o1 o3 o4 o5 o6 o7 o9 (.cells [iI x]) m1 m2 nx (l ++ [x])=Qy9 o0 o1 o3 o4 o5 o6 o7 o9 (.cells [iI x]) m1 m2 nx (l.length+1) (l ++ [x]) by simp] at hu;refine Y9 hu ?_
  rintro v H' ⟨rfl,rfl⟩
  exact ⟨rfl,rfl⟩
 cases h
end
end
end
end Go.Av
end
namespace Go.Av
noncomputable section
theorem Qcn {α:Type} (l:List α) (i j:Nat):(l.eraseIdx i)[j]? = l[if j<i then j else j+1]? := by
 rw [Ct]
 split<;>rfl
theorem Qri {R:Reg} {g:List (Nat×Nat)} (hg:g.length=R.length) (i:Nat):gm (R.eraseIdx i) (g.eraseIdx i)=(gm R g).eraseIdx i:=by
 apply Mm;intro j
 have hlen:(g.eraseIdx i).length=(R.eraseIdx i).length:=by rw [Bj,Bj,hg]
 rw [Qcn]
 cases hj:(R.eraseIdx i)[j]? with
 | none=>
  rw [Mj (by rw [Q2y hlen];exact Ck.1 hj)];rw [Qcn] at hj;rw [Mj (by rw [Q2y hg];exact Ck.1 hj)]
 | some q=>
  rw [Q60 hlen hj];rw [Qcn] at hj;rw [Q60 hg hj];simp only [Le,Qcn]
section
variable {P:Program} {Gl:Nat->Option (List PV)}
theorem Qrg {f:Nat} {args:List PV} {r:PV} {R:Reg} {i:Nat} {k:List UInt8} {C:RCl} (hok:Qe3 P f=true) (hr:Jp r=true) (hi:R[i]? = some (k,C))
  (h:∀ g:List (Nat×Nat),g.length=R.length->Qd P Gl f (.ptr 0 0::args.map .p) (Q4l R g i k C) (fun v H'=>v = .p r∧H'[0]? = some (.cells [.map 1])∧H'[1]? = some (.map ((gm R g).eraseIdx i)))):Q0j P Gl f R args r (R.eraseIdx i):=by
 have hil:=(La.1 hi).1;refine Qf2 hok hr fun w la fp hrep=>?_;obtain ⟨g,mt,ms,ft,fs,p⟩:=hrep.parts;obtain ⟨hci,hfi⟩:=p.cl i _ hi
 refine ⟨Q4l R g i k C,mF mt (ms i),by simp only [mF];rw [Af (by omega)];exact p.first,by simp [Q4l],Qf6 p hi,Q82 R g i k C,Y9 (h g p.len) fun v H' hv=>⟨hv.1,?_⟩⟩
 obtain ⟨_,e0,e1⟩:=hv;intro w' θ' hH h0 _ hkeep
 have hlen:(g.eraseIdx i).length=(R.eraseIdx i).length:=by rw [Bj,Bj,p.len]
 have r0:=hH.obj 0 _ la e0 h0
 obtain ⟨l1,hl1⟩:∃ l1,θ' 1=some l1:=by
  obtain ⟨C,t,fz,q1,q2,q3,q4,q5⟩:=r0;have:=(q5 0 (.map 1) rfl).1;generalize C.getD (la.off+0) Qj=vv at this
  cases this with
  | map _ l hl=>exact ⟨l,hl⟩
 have r1:=hH.obj 1 _ l1 e1 hl1
 let sk:Nat->Nat:=fun j=>if j<i then j else j+1
 have ski:∀ j,sk j≠i:=fun j=>by simp only [sk];split<;>omega
 have skn:∀ a b,a≠b->sk a≠sk b:=fun a b hab=>by simp only [sk];split<;>split<;>omega
 let mt':Nat->Option Loc:=fun i=>if i=0 then some la else if i=1 then some l1 else none
 let ft':Nat->Prop:=fun c=>c=la.blk∨c=l1.blk
 have occ01:∀ c,ft' c->¬ NL θ' H' c:=fun c hc hn=>by
  rcases hc with rfl | rfl
  ·exact hn 0 _ la e0 rfl h0 rfl
  exact hn 1 _ l1 e1 rfl hl1 rfl
 have key:∀ i l,mt' i=some l->(i=0∧l=la)∨(i=1∧l=l1):=fun i l h=>by
  by_cases h0:i=0
  ·subst h0;exact .inl ⟨rfl,by simpa [mt'] using h.symm⟩
  by_cases h1:i=1
  ·subst h1;exact .inr ⟨rfl,by simpa [mt'] using h.symm⟩
  simp [mt',h0,h1] at h
 have oth:∀ j q,(R.eraseIdx i)[j]? = some q->(ClRep w q.2 ((g.eraseIdx i).getD j (0,0)) (ms (sk j)) (fun c=>fs (sk j) c∧∃ a l,ms (sk j) a=some l∧l.blk=c)∧∀ c,fs (sk j) c->fp c)∧sk j<R.length ∧
   ∀ c,(fs (sk j) c∧∃ a l,ms (sk j) a=some l∧l.blk=c)->¬ ∃ i' l,mF mt (ms i) i'=some l∧l.blk=c:=fun j q hq=>by
  rw [Qcn] at hq;obtain ⟨g1,g2⟩:=p.cl (sk j) q hq
  have hgd:(g.eraseIdx i).getD j (0,0)=g.getD (sk j) (0,0):=by rw [Le,Qcn,← Le]
  rw [hgd]
  refine ⟨⟨⟨⟨g1.lies.obj,fun a l ha=>⟨g1.lies.occ a l ha,a,l,ha,rfl⟩,g1.lies.fresh,g1.lies.dist⟩,g1.first⟩,fun c hc=>(g2 c hc).1⟩,(La.1 hq).1,fun c hc=>?_⟩
  rintro ⟨a,l,ha,hac⟩
  by_cases h2:a<2
  ·simp only [mF,Af h2] at ha;exact (g2 c hc.1).2 (hac▸p.top.occ a l ha)
  simp only [mF,Ae h2] at ha;exact p.dis (sk j) i c (La.1 hq).1 hil (ski j) hc.1 (hac▸hci.lies.occ _ l ha)
 refine ⟨g.eraseIdx i,mt',fun j=>ms (sk j),ft',fun j c=>fs (sk j) c∧∃ a l,ms (sk j) a=some l∧l.blk=c,hlen,rfl,⟨fun i0 o l hio hl=>?_,fun i l hl=>?_,fun i hlen=>?_,fun i j li lj h1 h2 hne e=>?_⟩,fun c hc => .inr (occ01 c hc),fun j q hq=>?_,fun a b c ha hb hne h1 h2=>?_⟩
 ·rcases key i0 l hl with ⟨rfl,rfl⟩ | ⟨rfl,rfl⟩
  ·cases hio;obtain ⟨C,t,fz,q1,q2,q3,q4,q5⟩:=r0;refine ⟨C,t,fz,q1,q2,q3,q4,fun j v hj=>?_⟩
   match j,hj with
   | 0,hj=>
    cases hj;refine ⟨?_,(q5 0 (.map 1) rfl).2⟩;have:=(q5 0 (.map 1) rfl).1;generalize C.getD (l.off+0) Qj=vv at this
    cases this with
    | map _ l2 hl2=>
     rw [hl1] at hl2;cases hl2;exact .map 1 l1 (by simp [Q5y,mt'])
   | j+1,hj=>simp at hj
  have ho:o = .map (gm (R.eraseIdx i) (g.eraseIdx i)):=(Am hio).symm;subst ho;rw [← Qri p.len] at r1;obtain ⟨E,clk,q1,q2,q4,q3⟩:=r1;refine ⟨E,clk,q1,q2,q4,fun x kk v hx=>?_⟩
  have hxl:x<(R.eraseIdx i).length:=by have:=(La.1 hx).1;rwa [Q2y hlen] at this
  have hx':=Q60 hlen (Lb hxl);obtain ⟨s1,s2⟩:=q3 x kk v hx;rw [hx] at hx';cases hx';exact ⟨Q01 (.str _) _ rfl s1,by generalize (E.getD x default).val=vv at s2;cases s2;exact .gptr _ _⟩
 ·rcases key i l hl with ⟨rfl,rfl⟩ | ⟨rfl,rfl⟩
  ·exact .inl rfl
  exact .inr rfl
 ·have:2≤i:=hlen;simp only [mt'];rw [Ae (by omega),Ae (by omega)]
 ·have hd:=hH.dist 0 1 _ _ la l1 e0 e1 rfl rfl h0 hl1 (by omega)
  rcases key i li h1 with ⟨rfl,rfl⟩ | ⟨rfl,rfl⟩<;>rcases key j lj h2 with ⟨rfl,rfl⟩ | ⟨rfl,rfl⟩
  ·exact hne rfl
  ·exact hd _ rfl e.symm
  ·exact hd _ rfl e
  exact hne rfl
 ·obtain ⟨⟨g1,g2⟩,_,nu⟩:=oth j q hq
  exact ⟨⟨g1.lies.mono fun c hc=>⟨hc,(hkeep c (g2 c hc.1) (nu c hc)).1⟩,g1.first⟩,fun c hc=>⟨.inl (g2 c hc.1),fun ht=>occ01 c ht (hkeep c (g2 c hc.1) (nu c hc)).2⟩⟩
 obtain ⟨_,a2,_⟩:=oth a _ (Lb ha);obtain ⟨_,b2,_⟩:=oth b _ (Lb hb);exact p.dis (sk a) (sk b) c a2 b2 (skn a b hne) h1.1 h2.1
theorem Z7g {f:Nat} {args:List PV} {r:PV} {R:Reg} {i:Nat} {k:List UInt8} {C:RCl} (hr:Jp r=true) (hi:Yx k 0 R=some (i,C))
  (h:∀ g:List (Nat×Nat),g.length=R.length->Qd P Gl f (.ptr 0 0::args.map .p) (Q4l R g i k C) (fun v H'=>Frz (fun _=>False) H' v r∧H'[0]? = some (.cells [.map 1])∧H'[1]? = some (.map ((gm R g).eraseIdx i)))):Q0j P Gl f R args r (R.eraseIdx i):=
 Qrg (Q9x (h (List.replicate R.length (0,0)) (by simp))) hr (by have:=(Q0g R 0 i C hi).2;rwa [No] at this) fun g hg=>Q5m (h g hg)
end
end
end Go.Av
