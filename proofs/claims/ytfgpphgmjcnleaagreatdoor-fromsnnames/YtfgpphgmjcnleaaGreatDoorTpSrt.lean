/- Part of FromsnNames: the law returns true; no condition. -/
import Derived.KernelRfl
import Derived.Shelf.SlSortCmp.NoneTotal
import Derived.Test.YtfgpphgmjcnleaaGreatDoorTpColl
import Derived.Test.YtfgpphgmjcnleaaGreatDoorLaySort
import Derived.Test.YtfgpphgmjcnleaaGreatDoorRegM
set_option linter.all false
namespace Go.Av.Tp
open Go Go.Proofs Go.RowKit Go.Maps Go.Sort Go.Shelf
theorem Qgd (i:Int) (w:World):Calls Tryz.prog 130 #[.int .i64 i] w fun e w'=>e = .returned (.bool false)∧w'=w:=by
 go_enter Tryz.func130,Tryz.ntmps130
 go_wp2
 go_ret
 exact ⟨by simp,rfl⟩
theorem Qmu:∀ args w,(callFunc 130 args).run Tryz.prog w = .ok (.enter 130 args) w:=enters_of Tryz.func130 (by kernel_rfl) rfl
theorem Qnv:∀ args w,(callFunc 91 args).run Tryz.prog w = .ok (.enter 91 args) w:=enters_of Tryz.func91 (by kernel_rfl) rfl
theorem Qn4:∀ args w,(callFunc 90 args).run Tryz.prog w = .ok (.enter 90 args) w:=enters_of Tryz.func90 (by kernel_rfl) rfl
def Qn3 (x y:Int):Int:=if x<y then -1 else if x>y then 1 else 0
theorem Qlb (x y:Int) (w:World):Calls Tryz.prog 91 #[.int .i64 x,.int .i64 y] w fun e w'=>e = .returned (.int .i64 (Qn3 x y))∧w'=w:=by
 have e56:=Qmu
 by_cases h1:x<y
 ·go_enter Tryz.func91,Tryz.ntmps91
  go_wp2_with (go_at_fn 130;refine (Qgd _ _).mono ?_;rintro e w' ⟨rfl,rfl⟩)
  go_ret
  exact ⟨by rw [show Qn3 x y = -1 by unfold Qn3;rw [Af (by omega)]];rfl,rfl⟩
 by_cases h2:x>y
 ·go_enter Tryz.func91,Tryz.ntmps91
  go_wp2_with (go_at_fn 130;refine (Qgd _ _).mono ?_;rintro e w' ⟨rfl,rfl⟩)
  go_ret
  exact ⟨by rw [show Qn3 x y=1 by unfold Qn3;rw [Ae (by omega),Af (by omega)]];rfl,rfl⟩
 go_enter Tryz.func91,Tryz.ntmps91
 go_wp2_with (go_at_fn 130;refine (Qgd _ _).mono ?_;rintro e w' ⟨rfl,rfl⟩)
 go_ret
 exact ⟨by rw [show Qn3 x y=0 by unfold Qn3;rw [Ae (by omega),Ae (by omega)]];rfl,rfl⟩
def Qj3 (x y:Tpc):Int:=Qn3 x.1 y.1
theorem Qtl (x y:Tpc) (w:World):Calls Tryz.prog 90 #[Qc7 x,Qc7 y] w fun e w'=>e = .returned (.int .i64 (Qj3 x y))∧∃ q os',w'=grow (w.drewN q) os':=by
 have e28:=Qnv
 go_enter Tryz.func90,Tryz.ntmps90
 go_wp2_with (go_at_fn 91;refine (Qlb _ _ _).mono ?_;rintro e w' ⟨rfl,rfl⟩)
 go_ret
 refine ⟨rfl,0,#[.cells #[.int .i64 x.1,.string x.2.1,.bool x.2.2] 90,.cells #[.int .i64 y.1,.string y.2.1,.bool y.2.2] 90],?_⟩;rfl
theorem Qol (x y:Tpc):ltOf Qj3 x y=decide (x.1<y.1):=by
 unfold ltOf Qj3 Qn3
 by_cases h:x.1<y.1
 ·rw [Af h,Ad h];rfl
 rw [Ae h,Ab h]
 split<;>rfl
theorem Qpy:SWO (ltOf Qj3):=by
 refine ⟨fun x=>?_,fun x y z=>?_,fun x y z=>?_⟩<;>simp only [Qol,Ag,An]<;>omega
end Go.Av.Tp
namespace Go.Av.Tp
open Go Go.Proofs Go.RowKit Go.Maps Go.Sort Go.Shelf
theorem Qau (x:Tpc):(Q1o x).length=3:=rfl
theorem Qd1 (l:List Tpc):(l.flatMap Q1o).length=l.length * 3:=by
 induction l with
 | nil=>rfl
 | cons a l ih=>rw [List.flatMap_cons,List.length_append,ih,Qau,List.length_cons];omega
theorem Qhx:∀ (l:List Tpc) (t:Nat),t<l.length * 3->(l.flatMap Q1o)[t]? = some ((Q1o l[t / 3]!)[t % 3]!)
 | [],t,h=>by simp at h
 | a::l,t,h=>by
  rw [List.flatMap_cons]
  by_cases ht:t<3
  ·rw [List.getElem?_append_left (by rw [Qau];exact ht),Nat.div_eq_of_lt ht,Nat.mod_eq_of_lt ht]
   have:t=0∨t=1∨t=2:=by omega
   rcases this with rfl | rfl | rfl<;>rfl
  rw [List.getElem?_append_right (by rw [Qau];omega),Qau,Qhx l (t - 3) (by simp at h;omega)]
  have e1:t / 3=(t - 3) / 3+1:=by omega
  have e2:t % 3=(t - 3) % 3:=by omega
  rw [e1,e2];rfl
theorem Qcd (d:Array Tpc) (t:Nat) (h:t<d.size * 3):(d.toList.flatMap Q1o)[t]? = some (flatK Q1o 3 d)[t]! := by
 rw [Qhx _ _ (by simpa using h),get_flatK _ _ _ _ h,getElem!_pos d.toList (t / 3) (by simp;omega),getElem!_pos d (t / 3) (by omega),Array.getElem_toList]
end Go.Av.Tp
namespace Go.Av.Tp
open Go Go.Proofs Go.RowKit Go.Maps Go.Sort Go.Shelf
variable {Gl:Nat->Option (List PV)}
theorem Qh8 {θ:Th} {H:List AObj} {w w':World} (hH:Hp θ H w) (hb:Go.RowKit.Below w.heap.size w w'):Hp θ H w'∧Evo θ H w θ H w':=by
 have same:∀ c,c<w.heap.size->w'.heap[c]? = w.heap[c]? := hb.block
 exact ⟨⟨fun a o l ha hl=>(hH.obj a o l ha hl).mono (fun _ _ e=>e) (fun c hc hs=>⟨hs,same c hc⟩) (fun ho c hc=>same c ((hH.obj a o l ha hl).lt ho c hc)) hb.size,
  hH.dist,hH.fresh,hH.good,fun c hc=>Me (hH.badlt c hc) hb.size,hH.tok⟩,⟨fun _ _ e=>e,rfl,fun c hc h=>⟨h,same c hc⟩,hb.size,hb.os,hb.tape,hb.output⟩⟩
theorem Qrz {θ:Th} {H:List AObj} {w w':World} (hH:Hp θ H w) (hb:Go.RowKit.Below w.heap.size w w') {e:TypeId} {sz len g cap:Nat} {cur:Array Value} {xs:List Value} {cs:List AV} (hsz:0<sz) (hg0:w.heap.size≤g)
  (hg:w'.heap[g]? = some (.cells cur e (0,0))) (hlc:len≤cap) (hcur:cur.size=cap * sz) (htk:cur.toList.take (len * sz)=xs) (hcl:cs.length=len * sz)
  (hcs:∀ (j:Nat) (x:AV),cs[j]? = some x->(∀ θ S w,RelV θ S w x (xs.getD j Qc))∧(xs.getD j Qc).oneCell'=true) :
  ∃ θ',RelV θ' (Qe θ' (H ++ [.cells cs])) w' (.slice sz H.length 0 len) (.slice (some ⟨g,0,none⟩) len cap)∧Hp θ' (H ++ [.cells cs]) w'∧EvoS θ H w θ' (H ++ [.cells cs]) w':=by
 obtain ⟨h1,h2⟩:=Qh8 hH hb
 let n:=H.length
 let ln:Loc:=⟨g,0,cap * sz⟩
 have hext:∀ i l,θ i=some l->upθ θ n ln i=some l:=fun i l h=>by
  have:i≠n:=fun e=>by subst e;rw [hH.fresh n (Lj _)] at h;cases h
  simp [upθ,this,h]
 have tt:∀ i l,i<n->upθ θ n ln i=some l->θ i=some l:=fun i l hi h=>by
  have:i≠n:=by omega
  simpa [upθ,this] using h
 have get:∀ (i:Nat) o,(H ++ [AObj.cells cs])[i]? = some o->(i=n∧o = .cells cs)∨(i<n∧H[i]? = some o):=by
  intro i o hi
  by_cases hin:i<n
  ·rw [Lh hin] at hi;exact .inr ⟨hin,hi⟩
  rw [Lm (by omega)] at hi
  have:i - n=0:=by
   by_cases h0:i - n=0
   ·exact h0
   rw [Md (by simp;omega)] at hi;cases hi
  have hi' : [AObj.cells cs][i - n]? = some o:=hi;rw [this] at hi';simp at hi';exact .inl ⟨by omega,hi'.symm⟩
 have lts:∀ i o l,H[i]? = some o->o.live=true->θ i=some l->∀ c,o.occ l c->c<w.heap.size:=fun i o l hi ho hl c hc=>(hH.obj i o l hi hl).lt ho c hc
 have nl2:∀ c,c<w.heap.size->NL θ H c->NL (upθ θ n ln) (H ++ [.cells cs]) c:=fun c hc hf i o l hi hol hθ=>by
  rcases get i o hi with ⟨rfl,rfl⟩ | ⟨k1,k2⟩
  ·have:l=ln:=by simpa [upθ] using hθ.symm
   subst this;intro ec;have:g=c:=ec;omega
  exact hf i o l k2 hol (tt i l k1 hθ)
 have free2:∀ c,c<w.heap.size->Qe θ H c->Qe (upθ θ n ln) (H ++ [.cells cs]) c∧w'.heap[c]? = w.heap[c]? := fun c hc hf=>⟨⟨hf.1,nl2 c hc hf.2⟩,hb.block c hc⟩;refine ⟨upθ θ n ln,.slice sz n 0 len cap ln _ (by simp [upθ]) hsz hlc (by show 0+0+cap * sz≤cap * sz;omega) (.inl rfl),⟨?_,?_,?_,?_,?_,?_⟩,⟨⟨hext,rfl,fun c hc hf=>⟨nl2 c hc hf,hb.block c hc⟩,hb.size,hb.os,hb.tape,hb.output⟩,by simp,fun i hi=>?_⟩⟩
 ·intro i o l hi hθ
  rcases get i o hi with ⟨rfl,rfl⟩ | ⟨k1,k2⟩
  ·have:l=ln:=by simpa [upθ] using hθ.symm
   subst this;refine ⟨cur,e,(0,0),hg,hcur,fun j _=>by simp,?_,fun j x hj=>?_⟩
   ·show 0+cs.length≤cur.size;rw [hcl,hcur,Lv];exact Ni _ hlc
   have hjl:j<len * sz:=by rw [← hcl];exact (La.1 hj).1
   have ej:cur.getD (ln.off+j) Qc=xs.getD j Qc:=by
    show cur.getD (0+j) Qc=_;rw [Lv,← htk,Le,List.getElem?_take_of_lt hjl,Bj,Lo]
   rw [ej];exact ⟨(hcs j x hj).1 _ _ _,(hcs j x hj).2⟩
  exact (hH.obj i o l k2 (tt i l k1 hθ)).mono hext free2 (fun hol c hc=>hb.block c (lts i o l k2 hol (tt i l k1 hθ) c hc)) hb.size
 ·intro i j oi oj li lj hi hj hil hjl hti htj hne c c1 c2
  rcases get i oi hi with ⟨rfl,rfl⟩ | ⟨k1,k2⟩<;>rcases get j oj hj with ⟨rfl,rfl⟩ | ⟨m1,m2⟩
  ·exact hne rfl
  ·have:li=ln:=by simpa [upθ] using hti.symm
   subst this;have e1:g=c:=c1;have:=lts j oj lj m2 hjl (tt j lj m1 htj) c c2;omega
  ·have:lj=ln:=by simpa [upθ] using htj.symm
   subst this;have e1:g=c:=c2;have:=lts i oi li k2 hil (tt i li k1 hti) c c1;omega
  exact hH.dist i j oi oj li lj k2 m2 hil hjl (tt i li k1 hti) (tt j lj m1 htj) hne c c1 c2
 ·intro i hi;simp at hi
  have:i≠n:=by show i≠H.length;omega
  simp only [upθ,Ae this];exact hH.fresh i (by omega)
 ·intro i o l hi hol hθ c hc
  rcases get i o hi with ⟨rfl,rfl⟩ | ⟨k1,k2⟩
  ·have:l=ln:=by simpa [upθ] using hθ.symm
   subst this;intro hbad;have e1:g=c:=hc;have:=hH.badlt c hbad;omega
  exact hH.good i o l k2 hol (tt i l k1 hθ) c hc
 ·intro c hc;exact Me (hH.badlt c hc) hb.size
 ·intro i Q q hi
  rcases get i _ hi with ⟨_,h⟩ | ⟨k1,k2⟩
  ·cases h
  exact (hH.tok i Q q k2).imp fun _ h=>hext _ _ h
 have:i≠n:=by show i≠H.length;omega
 simp [upθ,this]
abbrev RTp:=Int×List UInt8×Bool
def Q6c (t:RTp):List AV := [.p (.int .i64 t.1),.p (.str t.2.1),.p (.bool t.2.2)]
def toC (t:RTp):Tpc:=(t.1,⟨⟨t.2.1⟩⟩,t.2.2)
theorem Q5y (l:List RTp):(l.flatMap Q6c).length=l.length * 3:=by
 induction l with
 | nil=>rfl
 | cons a l ih=>rw [Mz,Mw,ih,Mo];show 3+_=_;omega
theorem Q94:∀ (l:List RTp) (j:Nat) (x:AV),(l.flatMap Q6c)[j]? = some x->(∀ θ S w,RelV θ S w x (((l.map toC).flatMap Q1o).getD j Qc))∧(((l.map toC).flatMap Q1o).getD j Qc).oneCell'=true
 | [],j,x,h=>by simp at h
 | a::l,j,x,h=>by
  rw [Mx,Mz];rw [Mz] at h
  match j,h with
  | 0,h=>simp [Q6c] at h;subst h;exact ⟨fun _ _ _ => .p _ _ (.int _ _),rfl⟩
  | 1,h=>simp [Q6c] at h;subst h;exact ⟨fun _ _ _ => .p _ _ (.str _),rfl⟩
  | 2,h=>simp [Q6c] at h;subst h;exact ⟨fun _ _ _ => .p _ _ (.bool _),rfl⟩
  | j+3,h=>
   rw [Lm (by show 3≤_;omega)] at h
   have h:(l.flatMap Q6c)[j]? = some x:=by simpa [Q6c] using h
   have e:(Q1o (toC a)++(l.map toC).flatMap Q1o).getD (j+3) Qc=((l.map toC).flatMap Q1o).getD j Qc:=by
    rw [Le,Le,Lm (by show 3≤_;omega)];rfl
   rw [e];exact Q94 l j x h
theorem Q89 {ss:List Tpc} {T:List RTp} (h:ss.Perm (T.map toC)):∃ T':List RTp,T'.Perm T∧ss=T'.map toC:=by
 have e:(T.map toC).map (fun t:Tpc=>((t.1,t.2.1.data.toList,t.2.2):RTp))=T:=by
  rw [Nd];exact (Cc (fun t _=>rfl)).trans (List.map_id T)
 refine ⟨ss.map fun t=>(t.1,t.2.1.data.toList,t.2.2),by have:=h.map (fun t:Tpc=>((t.1,t.2.1.data.toList,t.2.2):RTp));rwa [e] at this,?_⟩;rw [Nd];exact ((Cc (fun t _=>rfl)).trans (List.map_id ss)).symm
theorem Qr3 {θ:Th} {S:Nat->Prop} {w:World} {E:Array MapEntry} {T:List RTp} (hn:E.size=(Q0z T).length)
  (h:∀ (i:Nat) k v,(Q0z T)[i]? = some (k,v)->RelP S w k (E.getD i default).key∧RelV θ S w v (E.getD i default).val):E.toList.map (·.val)=(T.map toC).map Qc7:=by
 have hl:E.size=T.length:=by simpa [Q0z] using hn
 apply Mb;intro i
 by_cases hi:i<T.length
 ·obtain ⟨_,h2⟩:=h i (.int .i64 T[i].1) (.agg [.p (.int .i64 T[i].1),.p (.str T[i].2.1),.p (.bool T[i].2.2)]) (by simp [Q0z,List.getElem?_eq_getElem hi])
  have e1:(E.toList.map (·.val))[i]? = some (E.getD i default).val:=by
   rw [Lk,Bj,Lr (by omega),Lo,Lr (by omega)];rfl
  have e2:((T.map toC).map Qc7)[i]? = some (Qc7 (toC T[i])):=by simp [List.getElem?_eq_getElem hi]
  rw [e1,e2];generalize (E.getD i default).val=v at h2
  cases h2 with
  | agg _ C hc h1 hv=>
   have hc3:C.size=3:=hc;have v0:=hv 0 _ rfl;have v1:=hv 1 _ rfl;have v2:=hv 2 _ rfl
   have e:C = #[C.getD 0 Qc,C.getD 1 Qc,C.getD 2 Qc]:=by
    apply Array.ext (by simpa using hc3);intro j j1 j2
    have:j=0∨j=1∨j=2:=by omega
    rcases this with rfl | rfl | rfl<;>simp [Array.getD,hc3]
   rw [e]
   cases v0 with | p _ _ q0=>cases v1 with | p _ _ q1=>cases v2 with | p _ _ q2=>
   generalize C.getD 0 Qc=c0 at q0;generalize C.getD 1 Qc=c1 at q1;generalize C.getD 2 Qc=c2 at q2;cases q0;cases q1;cases q2;rfl
 rw [Md (by simp;omega),Md (by simpa using hi)]
theorem Qru {H:List AObj} {r n o:Nat} {cs:List AV} {T:List RTp} (hn:H[n]? = some (.cells cs)) (hc:cs[o]? = some (.map r)) (hr:H[r]? = some (.map (Q0z T))) (hT:T.length≤1000000000) :
  Q8 Tryz.prog Gl 87 [.func (.func 127) [] [.ptr n o]] H (fun v H'=>∃ T':List RTp,T'.Perm T∧((T' = []∧v = .p .nilSlice∧H'=H)∨(T' ≠ []∧v = .slice 3 H.length 0 T'.length∧H'=H ++ [.cells (T'.flatMap Q6c)]))):=by
 refine ⟨by kernel_rfl,fun θ w cargs hargs hH hG=>?_⟩;have ha:=hargs.2 0 _ rfl;have hsz:=hargs.1;obtain ⟨cv,rfl⟩:∃ cv,cargs = #[cv]:=Bl.1 hsz;have ha:RelV θ (Qe θ H) w (.func (.func 127) [] [.ptr n o]) cv:=ha
 cases ha with
 | func _ _ _ A B hA hB hav hbv=>
  have hA0:A = #[]:=Mh hA;subst hA0;have hb0:=hbv 0 _ rfl;obtain ⟨bv,rfl⟩:∃ bv,B = #[bv]:=Bl.1 hB;have hb0:RelV θ (Qe θ H) w (.ptr n o) bv:=hb0
  cases hb0 with
  | ptr _ _ ln hln=>
   obtain ⟨C,t,fz,c1,c2,c3,c4,c5⟩:=hH.obj n _ ln hn hln;have hm:=(c5 o _ hc).1;have hol:o<cs.length:=(La.1 hc).1
   have hoc:ln.off+o<C.size:=by omega
   have hcell:w.cell? ⟨ln.blk,ln.off+o,none⟩=some (C.getD (ln.off+o) Qc):=by
    simp only [World.cell?,c1];rw [Lr hoc,Lo,Lr hoc];rfl
   generalize C.getD (ln.off+o) Qc=mv at hm hcell
   cases hm with
   | map _ lr hlr=>
    obtain ⟨E,clock,e1,e2,e3,e4⟩:=hH.obj r _ lr hr hlr;have hv:=Qr3 e2 e4
    have hEl:E.size=T.length:=by simpa [Q0z] using e2
    have hg:=Qea Fence.wide 1 trivial rfl (Lj _) ln.blk (ln.off+o) lr.blk E clock e3.2 e3.1 (T.map toC) hv w (Ls.1 c1).1 hcell e1;have hcall:=callsIn_wide.1 (Qr7 Fence.wide 3 trivial trivial rfl (Lj _) 127 #[.pointer (some ⟨ln.blk,ln.off+o,none⟩)] trivial Qn8 _ E.size (by rw [hEl];show _≤maxLen;simp [maxLen];omega) (by rw [hEl];omega) w hg);refine hcall.mono ?_
    rintro e w' ⟨v,ss,rfl,hS,hrow,hnil,hb⟩
    obtain ⟨T',hp,rfl⟩:=Q89 hS
    rcases hrow.2 with ⟨rfl,h0⟩ | ⟨g,cap,cur,rfl,hg0,hgb,hl1,hl2,hl3,hl4⟩
    ·have e0:T' = []:=by simpa using h0
     subst e0;obtain ⟨k1,k2⟩:=Qh8 hH hb;exact ⟨.p .nilSlice,_,H,θ,rfl,⟨[],hp,.inl ⟨rfl,rfl,rfl⟩⟩,.p _ _ .nilSlice,k1,⟨k2,Lj _,fun _ _=>rfl⟩⟩
    have hne:T' ≠ []:=fun e=>by subst e;have:=hnil.2 rfl;cases this
    rw [Mg] at hl1 hl4 ⊢;obtain ⟨θ',k1,k2,k3⟩:=Qrz (cs:=T'.flatMap Q6c) hH hb (by decide) hg0 hgb hl1 hl3 hl4 (Q5y T') (Q94 T');exact ⟨_,_,_,θ',rfl,⟨T',hp,.inr ⟨hne,rfl,rfl⟩⟩,k1,k2,k3⟩
end Go.Av.Tp
