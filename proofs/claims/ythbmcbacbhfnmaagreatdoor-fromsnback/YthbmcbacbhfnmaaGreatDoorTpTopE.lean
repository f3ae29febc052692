/- Part of FromsnBack: the law returns true; no condition. -/
import Derived.Test.YthbmcbacbhfnmaaGreatDoorTpTopC
import Derived.Test.YthbmcbacbhfnmaaGreatDoorAvJoin
import Derived.Test.YthbmcbacbhfnmaaGreatDoorAvClosed
import Derived.Test.YthbmcbacbhfnmaaGreatDoorAvSelf
import Derived.Test.YthbmcbacbhfnmaaGreatDoorRegE
set_option linter.all false
namespace Go.Av.Tp
open Go Go.Proofs
attribute [local irreducible] Q5j Wz Qq Qaj Qa1 Q0
set_option maxHeartbeats 1000000
variable {Gl:Nat->Option (List PV)}
section
variable {R:Reg} {c:List UInt8} {i:Nat} {C:RCl}
def Z2w (R:Reg) (g:List (Nat×Nat)) (i:Nat) (k:List UInt8) (C:RCl) (j:Nat) (o:AObj) (h:(Qed R g i k C)[j]? = some o):o.live=true:=by
 match j with
 | 0=>cases h;rfl
 | 1=>cases h;rfl
 | 2=>cases h;rfl
 | 3=>cases h;rfl
 | 4=>cases h;rfl
 | 5=>cases h;rfl
 | j+6=>simp_all [Qed,Qik]
def Qtm (R:Reg) (g:List (Nat×Nat)) (j:Nat) (o:AObj) (h:(U8 R g)[j]? = some o):o.live=true:=by
 match j with
 | 0=>cases h;rfl
 | 1=>cases h;rfl
 | j+2=>simp [U8] at h
theorem Qv0 (h:Vk c 0 R=some (i,C)) (hT:C.all.length≤1000000000):Zbd Tryz.prog Gl 17 R [.str c] (fun T=>T.Perm C.all∧T.Pairwise (fun a b=>a.1≤b.1)):=by
 refine Qwe (by kernel_rfl) fun w la fp hrep=>?_;obtain ⟨g,mt,ms,ft,fs,p⟩:=hrep.parts;have hi:=(Q6c R 0 i C h).2;rw [Bn] at hi;have hil:=(Ld.1 hi).1;have hRs:R.set i (c,C)=R:=Qtf hi;obtain ⟨hci,hfi⟩:=p.cl i _ hi
 refine ⟨Qed R g i c C,mF mt (ms i),ig,by simp [Qed],Qrx p hi,Qk3 R g i c C,Z2w R g i c C,fun more=>?_,Vf (Qz0 p.len h hT) fun v H' hv=>?_⟩
 ·obtain ⟨ρ,e0,e1,hren,hρ⟩:=Gf (R:=R) (g:=g) (i:=i) (k:=c) (C':=C) (H':=Qed R g i c C++more) more rfl;intro w' θ' hH h0 _ hkeep;have hgs:=Z4m (C':=C) p.len hi;have:=Qlw (w:=w) (used:=fun c=>∃ i' l,mF mt (ms i) i'=some l∧l.blk=c) (fp:=fp) (i0:=i) (k:=c) (C':=C) (ρ := ρ) (ms:=ms) (R':=R.set i (c,C))
   (fs:=fun j c=>fs j c∧∃ a l,ms j a=some l∧l.blk=c) (g:=g) (by rw [Nk];exact p.len) (Lt hil) (fun j q hj hq=>?_) (fun a b c _ _ ha hb hne h1 h2=>?_) hkeep hH h0 e0 (by simp_all) hren hρ
  ·simp_all
  ·exact aN
  exact jf
 obtain ⟨T',hp,hs,⟨rfl,rfl,rfl⟩ | ⟨hne,rfl,rfl⟩⟩:=hv
 ·simp_all
 exact ⟨T',[.cells [.map 4],.cells (T'.flatMap Qec)],⟨hp,hs⟩,rfl,.inr ⟨hne,1,rfl,rfl⟩⟩
def Qua {g:List (Nat×Nat)} (hg:g.length=R.length) (h:Vk c 0 R=none):Qq Tryz.prog Gl 17 [.ptr 0 0,.p (.str c)] (U8 R g) (fun v H'=>v = .p .nilSlice∧H'=U8 R g):=by
 refine Q8 k17 ?_;refine (Q8 k49 ?_:Qq Tryz.prog Gl 49 _ _ _);refine Gp (Q36 R g 0 h) ?_;exact ⟨rfl,rfl⟩
def Qr7 (h:Vk c 0 R=none):Zbd Tryz.prog Gl 17 R [.str c] (fun T=>T = []):=by
 refine Qwe (by kernel_rfl) fun w la fp hrep=>?_;obtain ⟨g,mt,ms,ft,fs,p⟩:=hrep.parts
 refine ⟨U8 R g,mt,p.first,by simp [U8],⟨p.top.obj,fun i l hl=>p.fpt _ (p.top.occ i l hl),p.top.fresh,p.top.dist⟩,Qbg R g,Qtm R g,fun more=>?_,Vf (Qua p.len h) fun v H' hv=>?_⟩
 rotate_left
 ·simp_all
 exact bB
def Qug (hT:∀ i C,Vk c 0 R=some (i,C)->C.all.length≤1000000000):Zbd Tryz.prog Gl 17 R [.str c] (fun T=>T.Perm (match Vk c 0 R with | none => [] | some q=>q.2.all)∧T.Pairwise (fun a b=>a.1≤b.1)):=by
 cases h:Vk c 0 R with
 | none=>
  intro H b a hb vs hvs;exact Vf (Qr7 h H b a hb vs hvs) fun v H' ⟨T,hq,r⟩=>⟨T,by simp_all,r⟩
 | some q=>grind [Qv0]
end
end Go.Av.Tp
namespace Go.Av.Tp
open Go Go.Proofs
variable {Gl:Nat->Option (List PV)}
section
variable {R:Reg} {c:List UInt8}
def Qim:∀ (l m:List RTp),l.Perm m->l.Pairwise (fun a b=>a.1≤b.1)->m.Pairwise (fun a b=>a.1≤b.1)->(l.map (·.1)).Nodup->l=m
 | [],m,h,_,_,_=>(List.nil_perm.1 h).symm
 | a::l,[],h,_,_,_=>by have:=h.length_eq;cases this
 | a::l,b::m,h,h1,h2,hn=>by
  have hb:b∈a::l:=h.mem_iff.2 (.head _);have ha:a∈b::m:=h.mem_iff.1 (.head _)
  have e1:a.1≤b.1:=by
   rcases Lx.1 hb with e | e
   ·rw [e];exact Ce _
   exact (Mn.1 h1).1 b e
  have e2:b.1≤a.1:=by
   rcases Lx.1 ha with e | e
   ·rw [e];exact Ce _
   exact (Mn.1 h2).1 a e
  have e:a=b:=Qrh hn (.head _) hb (Int.le_antisymm e1 e2);subst e;rw [Qim l m h.cons_inv (Mn.1 h1).2 (Mn.1 h2).2 (List.nodup_cons.1 hn).2]
def Qu0 (t:RTp):List RTp->List RTp
 | [] => [t]
 | u::l=>if t.1≤u.1 then t::u::l else u::Qu0 t l
def Qac:List RTp->List RTp
 | [] => []
 | t::l=>Qu0 t (Qac l)
def Qez (t:RTp):∀ l:List RTp,(Qu0 t l).Perm (t::l)
 | [] => .refl _
 | u::l=>by
  unfold Qu0;split
  ·exact .refl _
  exact ((Qez t l).cons u).trans (.swap t u l)
theorem Q01:∀ l:List RTp,(Qac l).Perm l
 | [] => .refl _
 | t::l=>(Qez t (Qac l)).trans ((Q01 l).cons t)
def Qfn (t:RTp):∀ l:List RTp,l.Pairwise (fun a b=>a.1≤b.1)->(Qu0 t l).Pairwise (fun a b=>a.1≤b.1)
 | [],_ => .cons (fun _ h=>by cases h) .nil
 | u::l,h=>by
  unfold Qu0;obtain ⟨h1,h2⟩:=Mn.1 h;split
  ·rename_i g;refine .cons (fun x hx=>?_) h
   rcases Lx.1 hx with e | e
   ·rw [e];exact g
   exact Int.le_trans g (h1 x e)
  rename_i g;refine .cons (fun x hx=>?_) (Qfn t l h2)
  rcases Lx.1 ((Qez t l).mem_iff.1 hx) with e | e
  ·rw [e];omega
  exact h1 x e
def Q5b:∀ l:List RTp,(Qac l).Pairwise (fun a b=>a.1≤b.1)
 | [] => .nil
 | t::l=>Qfn t _ (Q5b l)
def Qm6 (R:Reg) (c:List UInt8):List RTp:=match Vk c 0 R with | none => [] | some q=>q.2.all
def rTopics (R:Reg) (c:List UInt8):List RTp:=Qac (Qm6 R c)
def okAll (R:Reg) (c:List UInt8):Bool:=decide ((Qm6 R c).length≤1000000000∧((Qm6 R c).map (·.1)).Nodup)
def topics_reg (h:okAll R c=true):Q6f Tryz.prog Gl 17 R [.str c] (.slice 3 (Q7 topC (rTopics R c))) R:=by
 obtain ⟨h1,h2⟩:=Aa h;intro H b a hb vs hvs;refine Vf (Qug (R:=R) (c:=c) (fun i C hf=>by rw [Qm6,hf] at h1;exact h1) H b a hb vs hvs) ?_
 rintro v H' ⟨T,⟨hp,hs⟩,rfl,rfl⟩
 have e:T=rTopics R c:=Qim _ _ (hp.trans (Q01 _).symm) hs (Q5b _) ((hp.map (·.1)).nodup_iff.2 h2);rw [e];exact ⟨rfl,rfl⟩
end
end Go.Av.Tp
namespace Go.Av
noncomputable section
section
variable {P:Program} {Gl:Nat->Option (List PV)}
def Qiz (P:Program) (Gl:Nat->Option (List PV)) (b:CC) (n:Nat) (tm:List AV) (H:List AObj) (Q:CExit->List AV->List AObj->Prop):Prop:=
 ∀ code,Jd P code b=true->∀ θ0 H0 w0,GlobOK Gl θ0 H0 w0->∀ θ a w,EvoS θ0 H0 w0 θ H w->TmOk θ (Qu θ H) w tm a->Hp θ H w->Code.rounds P code (Z6y θ0 H0 w0 Q) n a w
def rdI {b:CC} (n:Nat) {tm:List AV} {H:List AObj} {Q:CExit->List AV->List AObj->Prop} (h:Qiz P Gl b n tm H Q):Qaj P Gl b tm H Q:=
 fun code hk θ a w hT hH hG=>wp_loop_rounds n (h code hk θ H w hG θ a w (.refl _ _ _) hT hH)
def Zzv (K:List AV->List AObj->Prop) (Q:CExit->List AV->List AObj->Prop):CExit->List AV->List AObj->Prop
 | .normal,tm,H=>K tm H
 | .exit i,tm,H=>Q (.exit i) tm H
 | .ret,tm,H=>Q .ret tm H
def rdP {b:CC} {n:Nat} {tm:List AV} {H:List AObj} {Q:CExit->List AV->List AObj->Prop} (h:ev (EP P Gl) b tm H (Zzv (fun tm H=>Qiz P Gl b n tm H Q) Q)):Qiz P Gl b (n+1) tm H Q:=by
 intro code hk θ0 H0 w0 hG0 θ a w hE hT hH;rw [rounds_succ];refine wp_mono (Qdx code b hk tm H _ h θ a w hT hH (hG0.evo hE.toEvo)) ?_
 rintro e a' w' ⟨ce,tm',H',θ',h1,h2,h3,h4,h5⟩
 cases ce<;>cases e<;>simp only [Qjj] at h1
 ·exact h2 code hk θ0 H0 w0 hG0 θ' a' w' (hE.trans h5) h3 h4
 ·exact io
 exact i5
def rdJ {R:Type} {x:Option R} {r:R} {b:CC} {n:Nat} {tm:List AV} {H:List AObj} {Q:CExit->List AV->List AObj->Prop} (T:List AV)
  (h1:ev (EP P Gl) b tm H (Z1f H.length (fun _:Unit=>T) (fun _=>H) (fun _=>x=some r) Q)) (h2:x=some r->Qiz P Gl b n T H Q):Qiz P Gl b (n+1) tm H Q:=by
 intro code hk θ0 H0 w0 hG0 θ a w hE hT hH;rw [rounds_succ];refine wp_mono (Qdx code b hk tm H _ h1 θ a w hT hH (hG0.evo hE.toEvo)) ?_
 rintro e a' w' ⟨ce,tm',H',θ',q1,q2,q3,q4,q5⟩
 cases ce<;>cases e<;>simp only [Qjj] at q1
 ·obtain ⟨s',j1,ρ,j3⟩:=q2;obtain ⟨p1,p2,p3⟩:=Qtl j3 q3 q4;exact h2 j1 code hk θ0 H0 w0 hG0 _ a' w' (hE.trans (Qib j3 q4 q5 hH (Lh _))) p1 p2
 ·subst q1;exact ⟨.exit _,tm',H',θ',rfl,q2,q3,q4,hE.trans q5⟩
 exact ⟨.ret,tm',H',θ',trivial,q2,q3,q4,hE.trans q5⟩
end
end
end Go.Av
namespace Go.Av
noncomputable section
set_option maxHeartbeats 4000000
section
variable {P:Program} {Gl:Nat->Option (List PV)} {R T:Type}
def Z8v (c:T->PV) (tab:List (Int×T)):List (PV×PV):=tab.map fun q=>(.int .i64 q.1,c q.2)
def Qbc:List (Int×T)->Int->Option T
 | [],_=>none
 | (k,v)::r,x=>bif x == k then some v else Qbc r x
def optC (o:Option T) (f:T->Option R) (z:Option R):Option R:=match o with
 | some v=>f v
 | none=>z
def Qnj {ks:List Nat} {xs ys:List AV} {b:Bool} {K:Bool->Prop} (h:V6 ks xs ys=some b) (hk:K b):Qck (EP P Gl) K ks xs ys:=by
 simp_all [Qks]
def Zd6 {x:PV} {K:Option PV->Prop} (h:K none):Qmh (EP P Gl) x [] K:=by
 simp_all [Qmh,Qok]
def Qzt {x c:Int} {v:PV} {r:List (PV×PV)} {K:Option PV->Prop} (h1:(x == c)=true->K (some v)) (h2:(x == c)=false->Qmh (EP P Gl) (.int .i64 x) r K) :
  Qmh (EP P Gl) (.int .i64 x) ((.int .i64 c,v)::r) K:=by
 unfold Qmh at h2 ⊢;rw [Qkp];have e:Jx (.int .i64 x) (.int .i64 c)=some (x == c):=rfl;rw [e]
 cases hb:x == c with
 | true=>exact h1 hb
 | false=>exact h2 hb
def Qsb {c:T->PV} {x:Int}:∀ (tab:List (Int×T)) {K:Option PV->Prop},K ((Qbc tab x).map c)->Qmh (EP P Gl) (.int .i64 x) (Z8v c tab) K
 | [],K,h=>Zd6 h
 | (k,v)::r,K,h=>Qzt (fun e=>by simp_all [Qbc]) (fun e=>Qsb r (by simp_all [Qbc]))
def Z4c {tab:List (Int×T)} {x:Int} {c:T->PV} {f:T->Option R} {z:Option R} {r:R} {K:Option PV->Prop} (h:optC (Qbc tab x) f z=some r) (h1:∀ v,Qbc tab x=some v->f v=some r->K (some (c v)))
  (h2:Qbc tab x=none->z=some r->K none):Qmh (EP P Gl) (.int .i64 x) (Z8v c tab) K:=by
 refine Qsb tab ?_
 cases hl:Qbc tab x with
 | none=>rw [hl] at h;exact h2 hl h
 | some v=>rw [hl] at h;exact h1 v hl h
end
def Qs8 {T:Type} {c:T->List PV} {e:Nat} (hc:∀ v,(c v).length=e) {K:Nat->Prop} {H:List AObj} {a n:Nat} {l:List T} (ho:H[a]? = some (.cells (Xh c l))) (hk:K a) (hn:n≤l.length) :
  Frz K H (.slice e a 0 n) (.slice e (Q7 c (l.take n))):=by
 have hlt:(l.take n).length=n:=by simp_all
 have hl:(Q7 c (l.take n)).flatten.length=n * e:=by
  have:=Q65 hc (l.take n);rw [Qaq,Mf,hlt] at this;exact this
 have hcs:((Xh c l).drop 0).take (n * e)=Xh c (l.take n):=by grind [Xh,Q65,Qy7]
 refine .slice e a 0 n (Xh c l) (Q7 c (l.take n)) hk ho (by rw [Q6,hlt]) (fun r hr=>?_) ?_ (fun i v x hv hx=>?_)
 ·grind [Q7]
 ·rw [hcs,Q65 hc,hlt,hl]
 rw [hcs,Qaq,Ll,hx] at hv;cases hv;exact .p _
def Z1t {K:Nat->Prop} {H:List AObj} {T:Type} {c:T->List PV} {l:List T} {e h:Nat}:Frz K H (.p (.slice e (((Q7 c l).take h).drop 0))) (.slice e (Q7 c (l.take h))):=by
 have:((Q7 c l).take h).drop 0=Q7 c (l.take h):=by simp [Q7]
 rw [this];exact .p _
end
end Go.Av
namespace Go.Av
noncomputable section
set_option maxHeartbeats 4000000
def Qwt {ρ:Nat->Nat} {H H0 H1:List AObj}:∀ (r:List AObj) (i:Nat),(∀ j o,r[j]? = some o->o.live=true->Z8l ρ H H0 H1 (i+j) o)->Qhb ρ H H0 H1 i r
 | [],_,_=>trivial
 | o::r,i,h=>by
  have t:Qhb ρ H H0 H1 (i+1) r:=Qwt r (i+1) fun j o' hj hl=>by have:=h (j+1) o' (by simp_all) hl;grind
  cases o with
  | dead=>exact t
  | cells cs=>exact hZ
  | map es=>exact hZ
  | strIter s p=>exact hZ
  | ext R a=>exact hZ
def Qp6 (n:Nat):∀ args:List PV,refsLt.refsLts n (args.map .p)=true
 | []=>rfl
 | _::l=>Qp6 n l
section
variable {P:Program} {Gl:Nat->Option (List PV)} {f:Nat} {args:List PV} {r:PV} {R R':Reg}
def Qv7 (h:GC P Gl f (.ptr 0 0::args.map .p) [.dead,.ext R 0] (.p r) [.dead,.dead,.ext R' 0]):Q6f P Gl f R args r R':=by
 intro H b a hb vs hvs;have hbl:=(Ld.1 hb).1;refine Qq5 h (fun i=>if i=0 then a else b) (H:=H) ⟨by simp [hvs.1],fun i v u hv hu=>?_⟩ ⟨.inl ⟨.ext R a,hb,.inl rfl⟩,trivial⟩ (by rfl) (Qp6 2 args) rfl (H.set b .dead ++ [.ext R' a]) (by simp) (Qwt _ 0 fun j o hj hl=>?_) (.p r) rfl ⟨rfl,rfl⟩
 ·cases i with
  | zero=>cases hv;cases hu;exact .same (.ptr 0 0)
  | succ i=>
   simp only [Nf,Ll] at hu
   cases hx:args[i]? with
   | none=>simp_all
   | some x=>rw [hx] at hu;cases hu;exact .frz v x (hvs.2 i v x hv hx)
 rw [Mi]
 by_cases hj1:j<H.length
 ·rw [Lm (by simp_all)] at hj
  by_cases hjb:j=b
  ·subst hjb;rw [Lt hbl] at hj;cases hj;cases hl
  rw [Lp (fun e=>hjb e.symm)] at hj;refine .inl ⟨?_,hj⟩<;>grind [kdB,AObj.live]
 rw [Lq (by simp_all)] at hj
 have hl1:(H.set b .dead).length=H.length:=by simp
 rw [hl1] at hj
 have h0:j - H.length=0:=by grind
 rw [h0] at hj;cases hj;refine .inr ⟨2,.ext R' 0,rfl,?_,fun h=>by simp_all,rfl⟩;show H.length+(2 - 2)=j;omega
def Qmr (h:Qq P Gl f (.ptr 0 0::args.map .p) [.dead,.ext R 0] (fun v H=>∃ b,H[b]? = some (.ext R' 0)∧Frz (fun a=>a≠b) H v r)):Q6f P Gl f R args r R':=by
 refine Qv7 (Qou (Lj rfl) (Vf h fun v H' ⟨b,hb,hf⟩=>⟨fun i=>if i=2 then b else i,?_⟩));refine ⟨⟨rfl,fun i v' u hv hu=>?_⟩,⟨.inl ⟨.ext R' 0,hb,.inl rfl⟩,trivial⟩,by rfl,rfl,rfl⟩
 cases i with
 | succ i=>simp_all
 | zero=>
  cases hv;cases hu;refine .frz v r (Qeh (fun a o h1 h2=>⟨?_,h2⟩) hf)<;>grind [kdB,AObj.live]
def Qkb {cf:CFunc} (hk:Q5p P f cf=true) (h:Q6s (EP P Gl) cf (.ptr 0 0::args.map .p) [.dead,.ext R 0] (fun v H=>∃ b,H[b]? = some (.ext R' 0)∧Frz (fun a=>a≠b) H v r)):Q6f P Gl f R args r R':=
 Qmr (Q8 hk h)
theorem Z12 (h:Q6f P Gl f R args r R') {H:List AObj} {b a:Nat} (hb:H[b]? = some (.ext R a)) {vs:List AV} (hvs:FrzL (fun _=>False) H vs args) {Q:AV->List AObj->Prop} (hq:Q (.p r) (H.set b .dead ++ [.ext R' a])):Qq P Gl f (.ptr a 0::vs) H Q:=
 Vf (h H b a hb vs hvs) fun v H' ⟨e1,e2⟩=>by simp_all
def cRg {α β:Type} {x:Option α} {F : α->Option β} {r : β} {g : α->PV} {g2 : α->Reg} (h:x.bind F=some r) (hp:∀ {v},x=some v->Q6f P Gl f R args (g v) (g2 v)) {H:List AObj} {b a:Nat} (hb:H[b]? = some (.ext R a)) {vs:List AV} (hvs:FrzL (fun _=>False) H vs args)
  {Q:AV->List AObj->Prop} (hq:∀ v,F v=some r->Q (.p (g v)) (H.set b .dead ++ [.ext (g2 v) a])):Qq P Gl f (.ptr a 0::vs) H Q:=by
 obtain ⟨v,h1,h2⟩:=Q2h h<;>grind [Z12]
def Z2s (h:Qt5 P Gl f) {H:List AObj} (n:Nat) (hn:H.length=n) {Q:AV->List AObj->Prop} (hq:Q (.ptr n 0) (H ++ [.dead,.ext [] n])):Qq P Gl f [] H Q:=
 Vf (h H) fun v H' ⟨e1,e2⟩=>by simp_all
def Z1c {β:Type} {b:Bool} {x y:Option β} {r : β} {G:Prop} (h:cond b x y=some r) (h1:b=true->x=some r->G) (h2:b=false->y=some r->G):G:=by
 grind
end
end
end Go.Av
