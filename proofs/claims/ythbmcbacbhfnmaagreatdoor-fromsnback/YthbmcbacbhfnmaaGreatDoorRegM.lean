/- Part of FromsnBack: the law returns true; no condition. -/
import Derived.Test.YthbmcbacbhfnmaaGreatDoorReg
import Derived.Test.YthbmcbacbhfnmaaGreatDoorTpColl
set_option linter.all false
namespace Go.Av
noncomputable section
set_option maxHeartbeats 4000000
section
variable {P:Program} {Gl:Nat->Option (List PV)}
def Qk3 (R:Reg) (g:List (Nat×Nat)) (i:Nat) (k:List UInt8) (C:RCl) (j:Nat) (Q:Reg) (e:Nat):(Qed R g i k C)[j]? ≠ some (AObj.ext Q e):=by
 grind [Qed,Qik]
def Qbg (R:Reg) (g:List (Nat×Nat)) (j:Nat) (Q:Reg) (e:Nat):(U8 R g)[j]? ≠ some (AObj.ext Q e):=by
 grind [U8]
def Qkd (R:Reg) (g:List (Nat×Nat)) (i:Nat) (k:List UInt8) (C':RCl) (H':List AObj):Prop:=
 ∃ ρ:Nat->Nat,H'[0]? = some (.cells [.map 1])∧H'[1]? = some (.map ((gm R g).set i (.str k,.ptr (ρ 0) 0)))∧Ren ρ 0 [] H' [] (Q2j C')∧∀ j,j<4->2 ≤ ρ j
def Z4m {R:Reg} {g:List (Nat×Nat)} (hg:g.length=R.length) {i:Nat} {k:List UInt8} {C C':RCl} (hi:R[i]? = some (k,C)):gm (R.set i (k,C')) g=gm R g:=by
 apply Lw
 grind [Qfa,Qd4]
def Z22 {f:Nat} {args:List PV} {r:PV} {R:Reg} {i:Nat} {k:List UInt8} {C C':RCl} (hok:Qm8 P f=true) (hr:Q29 r=true) (hi:R[i]? = some (k,C))
  (h:∀ g:List (Nat×Nat),g.length=R.length->Qq P Gl f (.ptr 0 0::args.map .p) (Qed R g i k C) (fun v H'=>v = .p r∧Qkd R g i k C' H')):Q6f P Gl f R args r (R.set i (k,C')):=by
 have hil:=(Ld.1 hi).1;refine Qql hok hr fun w la fp hrep=>?_;obtain ⟨g,mt,ms,ft,fs,p⟩:=hrep.parts;obtain ⟨hci,hfi⟩:=p.cl i _ hi
 refine ⟨Qed R g i k C,mF mt (ms i),ig,by simp [Qed],Qrx p hi,Qk3 R g i k C,Vf (h g p.len) fun v H' hv=>⟨hv.1,?_⟩⟩
 obtain ⟨_,ρ,e0,e1,hren,hρ⟩:=hv;intro w' θ' hH h0 _ hkeep;have hgs:=Z4m (C':=C') p.len hi;refine Qlw (w:=w) (used:=fun c=>∃ i' l,mF mt (ms i) i'=some l∧l.blk=c) (fp:=fp) (i0:=i) (k:=k) (C':=C') (ρ := ρ) (ms:=ms)
  (fs:=fun j c=>fs j c∧∃ a l,ms j a=some l∧l.blk=c) (g:=g) (by rw [Nk];exact p.len) (Lt hil) (fun j q hj hq=>?_) (fun a b c _ _ ha hb hne h1 h2=>?_) hkeep hH h0 e0 (by simp_all) hren hρ
 ·exact aN
 exact jf
def Qrv (R:Reg) (g:List (Nat×Nat)) (k:List UInt8) (C':RCl) (H':List AObj):Prop:=
 ∃ ρ:Nat->Nat,H'[0]? = some (.cells [.map 1])∧H'[1]? = some (.map (gm R g ++ [(.str k,.ptr (ρ 0) 0)]))∧Ren ρ 0 [] H' [] (Q2j C')∧∀ j,j<4->2 ≤ ρ j
def Z8c {R:Reg} {g:List (Nat×Nat)} (hg:g.length=R.length) (k:List UInt8) (C':RCl) (x:PV×AV):(gm (R ++ [(k,C')]) (g ++ [(0,0)])).set R.length x=gm R g ++ [x]:=by
 simp_all [gm,List.zip_append]
def Z11 {f:Nat} {args:List PV} {r:PV} {R:Reg} {k:List UInt8} {C':RCl} (hok:Qm8 P f=true) (hr:Q29 r=true)
  (h:∀ g:List (Nat×Nat),g.length=R.length->Qq P Gl f (.ptr 0 0::args.map .p) (U8 R g) (fun v H'=>v = .p r∧Qrv R g k C' H')):Q6f P Gl f R args r (R ++ [(k,C')]):=by
 refine Qql hok hr fun w la fp hrep=>?_;obtain ⟨g,mt,ms,ft,fs,p⟩:=hrep.parts
 refine ⟨U8 R g,mt,p.first,by simp [U8],⟨p.top.obj,fun i l hl=>p.fpt _ (p.top.occ i l hl),p.top.fresh,p.top.dist⟩,Qbg R g,Vf (h g p.len) fun v H' hv=>⟨hv.1,?_⟩⟩
 obtain ⟨_,ρ,e0,e1,hren,hρ⟩:=hv;intro w' θ' hH h0 _ hkeep;refine Qlw (w:=w) (used:=fun c=>∃ i' l,mt i'=some l∧l.blk=c) (fp:=fp) (i0:=R.length) (k:=k) (C':=C') (ρ := ρ) (ms:=ms)
  (fs:=fs) (g:=g ++ [(0,0)]) (by simp [p.len]) (by simp) (fun j q hj hq=>?_) (fun a b c hane hbne ha hb hne h1 h2=>?_) hkeep hH h0 e0 (by rw [Z8c p.len];omega) hren hρ
 ·have hjl:j<R.length:=by grind
  rw [Lm hjl] at hq;obtain ⟨g1,g2⟩:=p.cl j q hq
  have hgd:(g ++ [(0,0)]).getD j (0,0)=g.getD j (0,0):=by grind
  rw [hgd];exact ⟨g1,fun c hc=>⟨(g2 c hc).1,fun ⟨a,l,ha,hac⟩=>(g2 c hc).2 (hac▸p.top.occ a l ha)⟩⟩
 simp at ha hb;exact p.dis a b c (by omega) (by omega) hne h1 h2
def Z1s {f:Nat} {args:List PV} {r:PV} {R:Reg} (hok:Qm8 P f=true) (hr:Q29 r=true)
  (h:∀ g:List (Nat×Nat),g.length=R.length->Qq P Gl f (.ptr 0 0::args.map .p) (U8 R g) (fun v H'=>v = .p r∧H'[0]? = some (.cells [.map 1])∧H'[1]? = some (.map (gm R g)))):Q6f P Gl f R args r R:=by
 refine Qql hok hr fun w la fp hrep=>?_;obtain ⟨g,mt,ms,ft,fs,p⟩:=hrep.parts
 refine ⟨U8 R g,mt,p.first,by simp [U8],⟨p.top.obj,fun i l hl=>p.fpt _ (p.top.occ i l hl),p.top.fresh,p.top.dist⟩,Qbg R g,Vf (h g p.len) fun v H' hv=>⟨hv.1,?_⟩⟩
 obtain ⟨_,e0,e1⟩:=hv;intro w' θ' hH h0 _ hkeep;have r0:=hH.obj 0 _ la e0 h0
 obtain ⟨l1,hl1⟩:∃ l1,θ' 1=some l1:=aR
 exact ae
end
end
end Go.Av
namespace Go.Av.Tp
set_option maxHeartbeats 4000000
open Go Go.Proofs Go.RowKit Go.Maps Go.Sort Go.Shelf
variable {Gl:Nat->Option (List PV)}
def Qmf {θ:Th} {H:List AObj} {w w':World} (hH:Hp θ H w) (hb:Go.RowKit.Below w.heap.size w w'):Hp θ H w'∧Evo θ H w θ H w':=by
 have same:∀ c,c<w.heap.size->w'.heap[c]? = w.heap[c]? := hb.block
 exact ⟨⟨fun a o l ha hl=>(hH.obj a o l ha hl).mono (fun _ _ e=>e) (fun c hc hs=>⟨hs,same c hc⟩) (fun ho c hc=>same c ((hH.obj a o l ha hl).lt ho c hc)) hb.size,
  hH.dist,hH.fresh,hH.good,fun c hc=>Lu (hH.badlt c hc) hb.size,hH.tok⟩,⟨fun _ _ e=>e,rfl,fun c hc h=>⟨h,same c hc⟩,hb.size,hb.os,hb.tape,hb.output⟩⟩
def Z3a {θ:Th} {H:List AObj} {w w':World} (hH:Hp θ H w) (hb:Go.RowKit.Below w.heap.size w w') {e:TypeId} {sz len g cap:Nat} {cur:Array Value} {xs:List Value} {cs:List AV} (hsz:0<sz) (hg0:w.heap.size≤g)
  (hg:w'.heap[g]? = some (.cells cur e (0,0))) (hlc:len≤cap) (hcur:cur.size=cap * sz) (htk:cur.toList.take (len * sz)=xs) (hcl:cs.length=len * sz)
  (hcs:∀ (j:Nat) (x:AV),cs[j]? = some x->(∀ θ S w,RelV θ S w x (xs.getD j Qr))∧(xs.getD j Qr).oneCell'=true) :
  ∃ θ',RelV θ' (Qu θ' (H ++ [.cells cs])) w' (.slice sz H.length 0 len) (.slice (some ⟨g,0,none⟩) len cap)∧Hp θ' (H ++ [.cells cs]) w'∧EvoS θ H w θ' (H ++ [.cells cs]) w':=by
 obtain ⟨h1,h2⟩:=Qmf hH hb
 let n:=H.length
 let ln:Loc:=⟨g,0,cap * sz⟩
 have hext:∀ i l,θ i=some l->upθ θ n ln i=some l:=fun i l h=> eT
 have tt:∀ i l,i<n->upθ θ n ln i=some l->θ i=some l:=fun i l hi h=> eZ
 have get:∀ (i:Nat) o,(H ++ [AObj.cells cs])[i]? = some o->(i=n∧o = .cells cs)∨(i<n∧H[i]? = some o):=by grind
 have lts:∀ i o l,H[i]? = some o->o.live=true->θ i=some l->∀ c,o.occ l c->c<w.heap.size:=fun i o l hi ho hl c hc=>(hH.obj i o l hi hl).lt ho c hc
 have nl2:∀ c,c<w.heap.size->NL θ H c->NL (upθ θ n ln) (H ++ [.cells cs]) c:=fun c hc hf i o l hi hol hθ=>by
  rcases get i o hi with ⟨rfl,rfl⟩ | ⟨k1,k2⟩
  ·have:l=ln:=dh
   subst this;intro ec;have:g=c:=ec;omega
  exact hf i o l k2 hol (tt i l k1 hθ)
 have free2:∀ c,c<w.heap.size->Qu θ H c->Qu (upθ θ n ln) (H ++ [.cells cs]) c∧w'.heap[c]? = w.heap[c]? := fun c hc hf=>⟨⟨hf.1,nl2 c hc hf.2⟩,hb.block c hc⟩;refine ⟨upθ θ n ln,.slice sz n 0 len cap ln _ (by simp [upθ]) hsz hlc (by grind) (.inl rfl),⟨?_,?_,?_,?_,?_,?_⟩,⟨⟨hext,rfl,fun c hc hf=>⟨nl2 c hc hf,hb.block c hc⟩,hb.size,hb.os,hb.tape,hb.output⟩,by simp,fun i hi=>?_⟩⟩
 ·intro i o l hi hθ
  rcases get i o hi with ⟨rfl,rfl⟩ | ⟨k1,k2⟩
  ·have:l=ln:=dh
   subst this;refine ⟨cur,e,(0,0),hg,hcur,fun j _=>by simp,?_,fun j x hj=>?_⟩
   ·show 0+cs.length≤cur.size
    simp_all [Nat.mul_le_mul_right]
   grind [Array.getD_eq_getD_getElem?]
  exact (hH.obj i o l k2 (tt i l k1 hθ)).mono hext free2 (fun hol c hc=>hb.block c (lts i o l k2 hol (tt i l k1 hθ) c hc)) hb.size
 ·intro i j oi oj li lj hi hj hil hjl hti htj hne c c1 c2
  rcases get i oi hi with ⟨rfl,rfl⟩ | ⟨k1,k2⟩<;>rcases get j oj hj with ⟨rfl,rfl⟩ | ⟨m1,m2⟩
  ·omega
  ·have:li=ln:=dh
   subst this;have e1:g=c:=c1
   grind
  ·have:lj=ln:=dh
   subst this;have e1:g=c:=c2
   grind
  exact hH.dist i j oi oj li lj k2 m2 hil hjl (tt i li k1 hti) (tt j lj m1 htj) hne c c1 c2
 ·exact bo
 ·intro i o l hi hol hθ c hc
  rcases get i o hi with ⟨rfl,rfl⟩ | ⟨k1,k2⟩
  ·have:l=ln:=dh
   subst this;intro hbad;have e1:g=c:=hc;have:=hH.badlt c hbad;omega
  exact hH.good i o l k2 hol (tt i l k1 hθ) c hc
 ·intro c hc;exact Lu (hH.badlt c hc) hb.size
 ·intro i Q q hi
  rcases get i _ hi with ⟨_,h⟩ | ⟨k1,k2⟩
  ·cases h
  exact (hH.tok i Q q k2).imp fun _ h=>hext _ _ h
 exact eZ
abbrev RTp:=Int×List UInt8×Bool
def Qec (t:RTp):List AV := [.p (.int .i64 t.1),.p (.str t.2.1),.p (.bool t.2.2)]
def toC (t:RTp):Tpc:=(t.1,⟨⟨t.2.1⟩⟩,t.2.2)
def Qt2 (l:List RTp):(l.flatMap Qec).length=l.length * 3:=by
 induction l with
 | nil=>rfl
 | cons a l ih=>rw [Mz,Mp,ih,Mj];show 3+_=_;omega
theorem Qlp:∀ (l:List RTp) (j:Nat) (x:AV),(l.flatMap Qec)[j]? = some x->(∀ θ S w,RelV θ S w x (((l.map toC).flatMap Q8k).getD j Qr))∧(((l.map toC).flatMap Q8k).getD j Qr).oneCell'=true
 | [],j,x,h=>by simp_all
 | a::l,j,x,h=>by
  rw [Mv,Mz];rw [Mz] at h
  match j,h with
  | 0,h=>simp [Qec] at h;subst h;exact ⟨fun _ _ _ => .p _ _ (.int _ _),rfl⟩
  | 1,h=>simp [Qec] at h;subst h;exact ⟨fun _ _ _ => .p _ _ (.str _),rfl⟩
  | 2,h=>simp [Qec] at h;subst h;exact ⟨fun _ _ _ => .p _ _ (.bool _),rfl⟩
  | j+3,h=>
   rw [Lq (by show 3≤_;omega)] at h
   have h:(l.flatMap Qec)[j]? = some x:=by simp_all [Qec]
   have e:(Q8k (toC a)++(l.map toC).flatMap Q8k).getD (j+3) Qr=((l.map toC).flatMap Q8k).getD j Qr:=by rfl
   rw [e];exact Qlp l j x h
def Qfm {ss:List Tpc} {T:List RTp} (h:ss.Perm (T.map toC)):∃ T':List RTp,T'.Perm T∧ss=T'.map toC:=by
 have e:(T.map toC).map (fun t:Tpc=>((t.1,t.2.1.data.toList,t.2.2):RTp))=T:=by
  rw [Mr];exact (Ba (fun t _=>rfl)).trans (List.map_id T)
 refine ⟨ss.map fun t=>(t.1,t.2.1.data.toList,t.2.2),by grind,?_⟩;rw [Mr];exact ((Ba (fun t _=>rfl)).trans (List.map_id ss)).symm
def Z7p {θ:Th} {S:Nat->Prop} {w:World} {E:Array MapEntry} {T:List RTp} (hn:E.size=(Qdw T).length)
  (h:∀ (i:Nat) k v,(Qdw T)[i]? = some (k,v)->RelP S w k (E.getD i default).key∧RelV θ S w v (E.getD i default).val):E.toList.map (·.val)=(T.map toC).map Qkv:=by
 have hl:E.size=T.length:=by simp_all [Qdw]
 apply Lw;intro i
 by_cases hi:i<T.length
 ·obtain ⟨_,h2⟩:=h i (.int .i64 T[i].1) (.agg [.p (.int .i64 T[i].1),.p (.str T[i].2.1),.p (.bool T[i].2.2)]) (by simp_all [Qdw])
  have e1:(E.toList.map (·.val))[i]? = some (E.getD i default).val:=by
   rw [Ll,Nx,Me (by omega),Mb,Me (by omega)];rfl
  have e2:((T.map toC).map Qkv)[i]? = some (Qkv (toC T[i])):=by grind
  rw [e1,e2];generalize (E.getD i default).val=v at h2
  cases h2 with
  | agg _ C hc h1 hv=>
   have hc3:C.size=3:=hc;have v0:=hv 0 _ rfl;have v1:=hv 1 _ rfl;have v2:=hv 2 _ rfl
   have e:C = #[C.getD 0 Qr,C.getD 1 Qr,C.getD 2 Qr]:=by
    apply Array.ext (by omega);intro j j1 j2
    have:j=0∨j=1∨j=2:=by omega
    rcases this with rfl | rfl | rfl<;>simp_all
   rw [e]
   cases v0 with | p _ _ q0=>cases v1 with | p _ _ q1=>cases v2 with | p _ _ q2=>
   generalize C.getD 0 Qr=c0 at q0;generalize C.getD 1 Qr=c1 at q1;generalize C.getD 2 Qr=c2 at q2;cases q0;cases q1;cases q2;rfl
 simp_all
def Z88 {H:List AObj} {r n o:Nat} {cs:List AV} {T:List RTp} (hn:H[n]? = some (.cells cs)) (hc:cs[o]? = some (.map r)) (hr:H[r]? = some (.map (Qdw T))) (hT:T.length≤1000000000) :
  Qq Tryz.prog Gl 50 [.func (.func 89) [] [.ptr n o]] H (fun v H'=>∃ T':List RTp,T'.Perm T∧((T' = []∧v = .p .nilSlice∧H'=H)∨(T' ≠ []∧v = .slice 3 H.length 0 T'.length∧H'=H ++ [.cells (T'.flatMap Qec)]))):=by
 refine ⟨by kernel_rfl,fun θ w cargs hargs hH hG=>?_⟩;have ha:=hargs.2 0 _ rfl;have hsz:=hargs.1;obtain ⟨cv,rfl⟩:∃ cv,cargs = #[cv]:=Nj.1 hsz;have ha:RelV θ (Qu θ H) w (.func (.func 89) [] [.ptr n o]) cv:=ha
 cases ha with
 | func _ _ _ A B hA hB hav hbv=>
  have hA0:A = #[]:=Ns hA;subst hA0;have hb0:=hbv 0 _ rfl;obtain ⟨bv,rfl⟩:∃ bv,B = #[bv]:=Nj.1 hB;have hb0:RelV θ (Qu θ H) w (.ptr n o) bv:=hb0
  cases hb0 with
  | ptr _ _ ln hln=>
   obtain ⟨C,t,fz,c1,c2,c3,c4,c5⟩:=hH.obj n _ ln hn hln;have hm:=(c5 o _ hc).1;have hol:o<cs.length:=(Ld.1 hc).1
   have hoc:ln.off+o<C.size:=by omega
   have hcell:w.cell? ⟨ln.blk,ln.off+o,none⟩=some (C.getD (ln.off+o) Qr):=by simp_all [World.cell?]
   generalize C.getD (ln.off+o) Qr=mv at hm hcell
   cases hm with
   | map _ lr hlr=>
    obtain ⟨E,clock,e1,e2,e3,e4⟩:=hH.obj r _ lr hr hlr;have hv:=Z7p e2 e4
    have hEl:E.size=T.length:=by simp_all [Qdw]
    have hg:=Qnp Fence.wide 1 trivial rfl (Lh _) ln.blk (ln.off+o) lr.blk E clock e3.2 e3.1 (T.map toC) hv w (Mh.1 c1).1 hcell e1;have hcall:=callsIn_wide.1 (Z79 Fence.wide 3 trivial trivial rfl (Lh _) 89 #[.pointer (some ⟨ln.blk,ln.off+o,none⟩)] trivial Z1j _ E.size (by grind [maxLen]) (by omega) w hg);refine hcall.mono ?_
    rintro e w' ⟨v,ss,rfl,hS,hrow,hnil,hb⟩
    obtain ⟨T',hp,rfl⟩:=Qfm hS
    rcases hrow.2 with ⟨rfl,h0⟩ | ⟨g,cap,cur,rfl,hg0,hgb,hl1,hl2,hl3,hl4⟩
    ·have e0:T' = []:=by simp_all
     subst e0;obtain ⟨k1,k2⟩:=Qmf hH hb;exact ⟨.p .nilSlice,_,H,θ,rfl,⟨[],hp,.inl ⟨rfl,rfl,rfl⟩⟩,.p _ _ .nilSlice,k1,⟨k2,Lh _,fun _ _=>rfl⟩⟩
    have hne:T' ≠ []:=fun e=>by simp_all
    rw [Mf] at hl1 hl4 ⊢;obtain ⟨θ',k1,k2,k3⟩:=Z3a (cs:=T'.flatMap Qec) hH hb (by decide) hg0 hgb hl1 hl3 hl4 (Qt2 T') (Qlp T')
    grind
end Go.Av.Tp
