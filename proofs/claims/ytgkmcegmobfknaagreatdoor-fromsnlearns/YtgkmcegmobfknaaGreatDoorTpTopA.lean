/- Part of FromsnLearns: the law returns true; no condition. -/
import Derived.Test.YtgkmcegmobfknaaGreatDoorTpSrt
import Derived.Test.YtgkmcegmobfknaaGreatDoorRegM
set_option linter.all false
namespace Go.Av.Tp
open Go Go.Proofs Go.RowKit Go.Maps Go.Sort Go.Shelf
variable {Gl:Nat->Option (List PV)}
theorem Qld {θ:Th} {H:List AObj} {w w':World} (hH:Hp θ H w) (hb:Go.RowKit.Below w.heap.size w w'):Hp θ H w'∧Evo θ H w θ H w':=by
 have same:∀ c,c<w.heap.size->w'.heap[c]? = w.heap[c]? := hb.block
 exact ⟨⟨fun a o l ha hl=>(hH.obj a o l ha hl).mono (fun _ _ e=>e) (fun c hc hs=>⟨hs,same c hc⟩) (fun ho c hc=>same c ((hH.obj a o l ha hl).lt ho c hc)) hb.size,
  hH.dist,hH.fresh,hH.good,fun c hc=>Mo (hH.badlt c hc) hb.size,hH.tok⟩,⟨fun _ _ e=>e,rfl,fun c hc h=>⟨h,same c hc⟩,hb.size,hb.os,hb.tape,hb.output⟩⟩
theorem Z05 {θ:Th} {H:List AObj} {w w':World} (hH:Hp θ H w) (hb:Go.RowKit.Below w.heap.size w w') {e:TypeId} {sz len g cap:Nat} {cur:Array Value} {xs:List Value} {cs:List AV} (hsz:0<sz) (hg0:w.heap.size≤g)
  (hg:w'.heap[g]? = some (.cells cur e (0,0))) (hlc:len≤cap) (hcur:cur.size=cap * sz) (htk:cur.toList.take (len * sz)=xs) (hcl:cs.length=len * sz)
  (hcs:∀ (j:Nat) (x:AV),cs[j]? = some x->(∀ θ S w,RelV θ S w x (xs.getD j Qj))∧(xs.getD j Qj).oneCell'=true) :
  ∃ θ',RelV θ' (Qn θ' (H ++ [.cells cs])) w' (.slice sz H.length 0 len) (.slice (some ⟨g,0,none⟩) len cap)∧Hp θ' (H ++ [.cells cs]) w'∧EvoS θ H w θ' (H ++ [.cells cs]) w':=by
 obtain ⟨h1,h2⟩:=Qld hH hb
 let n:=H.length
 let ln:Loc:=⟨g,0,cap * sz⟩
 have hext:∀ i l,θ i=some l->upθ θ n ln i=some l:=fun i l h=>by
  have:i≠n:=fun e=>by subst e;rw [hH.fresh n (Li _)] at h;cases h
  simp [upθ,this,h]
 have tt:∀ i l,i<n->upθ θ n ln i=some l->θ i=some l:=fun i l hi h=>by
  have:i≠n:=by omega
  simpa [upθ,this] using h
 have get:∀ (i:Nat) o,(H ++ [AObj.cells cs])[i]? = some o->(i=n∧o = .cells cs)∨(i<n∧H[i]? = some o):=by
  intro i o hi
  by_cases hin:i<n
  ·rw [Lk hin] at hi;exact .inr ⟨hin,hi⟩
  rw [Lo (by omega)] at hi
  have:i - n=0:=by
   by_cases h0:i - n=0
   ·exact h0
   rw [Mj (by simp;omega)] at hi;cases hi
  have hi' : [AObj.cells cs][i - n]? = some o:=hi;rw [this] at hi';simp at hi';exact .inl ⟨by omega,hi'.symm⟩
 have lts:∀ i o l,H[i]? = some o->o.live=true->θ i=some l->∀ c,o.occ l c->c<w.heap.size:=fun i o l hi ho hl c hc=>(hH.obj i o l hi hl).lt ho c hc
 have nl2:∀ c,c<w.heap.size->NL θ H c->NL (upθ θ n ln) (H ++ [.cells cs]) c:=fun c hc hf i o l hi hol hθ=>by
  rcases get i o hi with ⟨rfl,rfl⟩ | ⟨k1,k2⟩
  ·have:l=ln:=by simpa [upθ] using hθ.symm
   subst this;intro ec;have:g=c:=ec;omega
  exact hf i o l k2 hol (tt i l k1 hθ)
 have free2:∀ c,c<w.heap.size->Qn θ H c->Qn (upθ θ n ln) (H ++ [.cells cs]) c∧w'.heap[c]? = w.heap[c]? := fun c hc hf=>⟨⟨hf.1,nl2 c hc hf.2⟩,hb.block c hc⟩;refine ⟨upθ θ n ln,.slice sz n 0 len cap ln _ (by simp [upθ]) hsz hlc (by show 0+0+cap * sz≤cap * sz;omega) (.inl rfl),⟨?_,?_,?_,?_,?_,?_⟩,⟨⟨hext,rfl,fun c hc hf=>⟨nl2 c hc hf,hb.block c hc⟩,hb.size,hb.os,hb.tape,hb.output⟩,by simp,fun i hi=>?_⟩⟩
 ·intro i o l hi hθ
  rcases get i o hi with ⟨rfl,rfl⟩ | ⟨k1,k2⟩
  ·have:l=ln:=by simpa [upθ] using hθ.symm
   subst this;refine ⟨cur,e,(0,0),hg,hcur,fun j _=>by simp,?_,fun j x hj=>?_⟩
   ·show 0+cs.length≤cur.size;rw [hcl,hcur,Me];exact Ns _ hlc
   have hjl:j<len * sz:=by rw [← hcl];exact (La.1 hj).1
   have ej:cur.getD (ln.off+j) Qj=xs.getD j Qj:=by
    show cur.getD (0+j) Qj=_;rw [Me,← htk,Le,List.getElem?_take_of_lt hjl,Cc,Lr]
   rw [ej];exact ⟨(hcs j x hj).1 _ _ _,(hcs j x hj).2⟩
  exact (hH.obj i o l k2 (tt i l k1 hθ)).mono hext free2 (fun hol c hc=>hb.block c (lts i o l k2 hol (tt i l k1 hθ) c hc)) hb.size
 ·intro i j oi oj li lj hi hj hil hjl hti htj hne c c1 c2
  rcases get i oi hi with ⟨rfl,rfl⟩ | ⟨k1,k2⟩<;>rcases get j oj hj with ⟨rfl,rfl⟩ | ⟨m1,m2⟩
  ·exact hne rfl
  ·have:li=ln:=by simpa [upθ] using hti.symm
   subst this;have e1:g=c:=c1;have:=lts j oj lj m2 hjl (tt j lj m1 htj) c c2;omega
  ·have:lj=ln:=by simpa [upθ] using htj.symm
   subst this;have e1:g=c:=c2;have:=lts i oi li k2 hil (tt i li k1 hti) c c1;omega
  exact hH.dist i j oi oj li lj k2 m2 hil hjl (tt i li k1 hti) (tt j lj m1 htj) hne c c1 c2
 ·intro i hi;simp at hi
  have:i≠n:=by show i≠H.length;omega
  simp only [upθ,Ae this];exact hH.fresh i (by omega)
 ·intro i o l hi hol hθ c hc
  rcases get i o hi with ⟨rfl,rfl⟩ | ⟨k1,k2⟩
  ·have:l=ln:=by simpa [upθ] using hθ.symm
   subst this;intro hbad;have e1:g=c:=hc;have:=hH.badlt c hbad;omega
  exact hH.good i o l k2 hol (tt i l k1 hθ) c hc
 ·intro c hc;exact Mo (hH.badlt c hc) hb.size
 ·intro i Q q hi
  rcases get i _ hi with ⟨_,h⟩ | ⟨k1,k2⟩
  ·cases h
  exact (hH.tok i Q q k2).imp fun _ h=>hext _ _ h
 have:i≠n:=by show i≠H.length;omega
 simp [upθ,this]
abbrev RTp:=Int×List UInt8×Bool
def Q7v (t:RTp):List AV := [.p (.int .i64 t.1),.p (.str t.2.1),.p (.bool t.2.2)]
def toC (t:RTp):Tpc:=(t.1,⟨⟨t.2.1⟩⟩,t.2.2)
theorem Q76 (l:List RTp):(l.flatMap Q7v).length=l.length * 3:=by
 induction l with
 | nil=>rfl
 | cons a l ih=>rw [Mu,Ln,ih,Ma];show 3+_=_;omega
theorem Qa4:∀ (l:List RTp) (j:Nat) (x:AV),(l.flatMap Q7v)[j]? = some x->(∀ θ S w,RelV θ S w x (((l.map toC).flatMap Q2q).getD j Qj))∧(((l.map toC).flatMap Q2q).getD j Qj).oneCell'=true
 | [],j,x,h=>by simp at h
 | a::l,j,x,h=>by
  rw [Ng,Mu];rw [Mu] at h
  match j,h with
  | 0,h=>simp [Q7v] at h;subst h;exact ⟨fun _ _ _ => .p _ _ (.int _ _),rfl⟩
  | 1,h=>simp [Q7v] at h;subst h;exact ⟨fun _ _ _ => .p _ _ (.str _),rfl⟩
  | 2,h=>simp [Q7v] at h;subst h;exact ⟨fun _ _ _ => .p _ _ (.bool _),rfl⟩
  | j+3,h=>
   rw [Lo (by show 3≤_;omega)] at h
   have h:(l.flatMap Q7v)[j]? = some x:=by simpa [Q7v] using h
   have e:(Q2q (toC a)++(l.map toC).flatMap Q2q).getD (j+3) Qj=((l.map toC).flatMap Q2q).getD j Qj:=by
    rw [Le,Le,Lo (by show 3≤_;omega)];rfl
   rw [e];exact Qa4 l j x h
theorem Q95 {ss:List Tpc} {T:List RTp} (h:ss.Perm (T.map toC)):∃ T':List RTp,T'.Perm T∧ss=T'.map toC:=by
 have e:(T.map toC).map (fun t:Tpc=>((t.1,t.2.1.data.toList,t.2.2):RTp))=T:=by
  rw [Nj];exact (Dh (fun t _=>rfl)).trans (Eh T)
 refine ⟨ss.map fun t=>(t.1,t.2.1.data.toList,t.2.2),by have:=h.map (fun t:Tpc=>((t.1,t.2.1.data.toList,t.2.2):RTp));rwa [e] at this,?_⟩;rw [Nj];exact ((Dh (fun t _=>rfl)).trans (Eh ss)).symm
theorem Qw3 {θ:Th} {S:Nat->Prop} {w:World} {E:Array MapEntry} {T:List RTp} (hn:E.size=(Q2n T).length)
  (h:∀ (i:Nat) k v,(Q2n T)[i]? = some (k,v)->RelP S w k (E.getD i default).key∧RelV θ S w v (E.getD i default).val):E.toList.map (·.val)=(T.map toC).map Qdn:=by
 have hl:E.size=T.length:=by simpa [Q2n] using hn
 apply Mm;intro i
 by_cases hi:i<T.length
 ·obtain ⟨_,h2⟩:=h i (.int .i64 T[i].1) (.agg [.p (.int .i64 T[i].1),.p (.str T[i].2.1),.p (.bool T[i].2.2)]) (by simp [Q2n,List.getElem?_eq_getElem hi])
  have e1:(E.toList.map (·.val))[i]? = some (E.getD i default).val:=by
   rw [Lm,Cc,Ly (by omega),Lr,Ly (by omega)];rfl
  have e2:((T.map toC).map Qdn)[i]? = some (Qdn (toC T[i])):=by simp [List.getElem?_eq_getElem hi]
  rw [e1,e2];generalize (E.getD i default).val=v at h2
  cases h2 with
  | agg _ C hc h1 hv=>
   have hc3:C.size=3:=hc;have v0:=hv 0 _ rfl;have v1:=hv 1 _ rfl;have v2:=hv 2 _ rfl
   have e:C = #[C.getD 0 Qj,C.getD 1 Qj,C.getD 2 Qj]:=by
    apply Array.ext (by simpa using hc3);intro j j1 j2
    have:j=0∨j=1∨j=2:=by omega
    rcases this with rfl | rfl | rfl<;>simp [Array.getD,hc3]
   rw [e]
   cases v0 with | p _ _ q0=>cases v1 with | p _ _ q1=>cases v2 with | p _ _ q2=>
   generalize C.getD 0 Qj=c0 at q0;generalize C.getD 1 Qj=c1 at q1;generalize C.getD 2 Qj=c2 at q2;cases q0;cases q1;cases q2;rfl
 rw [Mj (by simp;omega),Mj (by simpa using hi)]
theorem Qyh {H:List AObj} {r n o:Nat} {cs:List AV} {T:List RTp} (hn:H[n]? = some (.cells cs)) (hc:cs[o]? = some (.map r)) (hr:H[r]? = some (.map (Q2n T))) (hT:T.length≤1000000000) :
  Qd Tryz.prog Gl 24 [.func (.func 53) [] [.ptr n o]] H (fun v H'=>∃ T':List RTp,T'.Perm T∧((T' = []∧v = .p .nilSlice∧H'=H)∨(T' ≠ []∧v = .slice 3 H.length 0 T'.length∧H'=H ++ [.cells (T'.flatMap Q7v)]))):=by
 refine ⟨by kernel_rfl,fun θ w cargs hargs hH hG=>?_⟩;have ha:=hargs.2 0 _ rfl;have hsz:=hargs.1;obtain ⟨cv,rfl⟩:∃ cv,cargs = #[cv]:=Ce.1 hsz;have ha:RelV θ (Qn θ H) w (.func (.func 53) [] [.ptr n o]) cv:=ha
 cases ha with
 | func _ _ _ A B hA hB hav hbv=>
  have hA0:A = #[]:=Mp hA;subst hA0;have hb0:=hbv 0 _ rfl;obtain ⟨bv,rfl⟩:∃ bv,B = #[bv]:=Ce.1 hB;have hb0:RelV θ (Qn θ H) w (.ptr n o) bv:=hb0
  cases hb0 with
  | ptr _ _ ln hln=>
   obtain ⟨C,t,fz,c1,c2,c3,c4,c5⟩:=hH.obj n _ ln hn hln;have hm:=(c5 o _ hc).1;have hol:o<cs.length:=(La.1 hc).1
   have hoc:ln.off+o<C.size:=by omega
   have hcell:w.cell? ⟨ln.blk,ln.off+o,none⟩=some (C.getD (ln.off+o) Qj):=by
    simp only [World.cell?,c1];rw [Ly hoc,Lr,Ly hoc];rfl
   generalize C.getD (ln.off+o) Qj=mv at hm hcell
   cases hm with
   | map _ lr hlr=>
    obtain ⟨E,clock,e1,e2,e3,e4⟩:=hH.obj r _ lr hr hlr;have hv:=Qw3 e2 e4
    have hEl:E.size=T.length:=by simpa [Q2n] using e2
    have hg:=Qhr Fence.wide 1 trivial rfl (Li _) ln.blk (ln.off+o) lr.blk E clock e3.2 e3.1 (T.map toC) hv w (Lz.1 c1).1 hcell e1;have hcall:=callsIn_wide.1 (Qvv Fence.wide 3 trivial trivial rfl (Li _) 53 #[.pointer (some ⟨ln.blk,ln.off+o,none⟩)] trivial Qso _ E.size (by rw [hEl];show _≤maxLen;simp [maxLen];omega) (by rw [hEl];omega) w hg);refine hcall.mono ?_
    rintro e w' ⟨v,ss,rfl,hS,hrow,hnil,hb⟩
    obtain ⟨T',hp,rfl⟩:=Q95 hS
    rcases hrow.2 with ⟨rfl,h0⟩ | ⟨g,cap,cur,rfl,hg0,hgb,hl1,hl2,hl3,hl4⟩
    ·have e0:T' = []:=by simpa using h0
     subst e0;obtain ⟨k1,k2⟩:=Qld hH hb;exact ⟨.p .nilSlice,_,H,θ,rfl,⟨[],hp,.inl ⟨rfl,rfl,rfl⟩⟩,.p _ _ .nilSlice,k1,⟨k2,Li _,fun _ _=>rfl⟩⟩
    have hne:T' ≠ []:=fun e=>by subst e;have:=hnil.2 rfl;cases this
    rw [Lp] at hl1 hl4 ⊢;obtain ⟨θ',k1,k2,k3⟩:=Z05 (cs:=T'.flatMap Q7v) hH hb (by decide) hg0 hgb hl1 hl3 hl4 (Q76 T') (Qa4 T');exact ⟨_,_,_,θ',rfl,⟨T',hp,.inr ⟨hne,rfl,rfl⟩⟩,k1,k2,k3⟩
end Go.Av.Tp
