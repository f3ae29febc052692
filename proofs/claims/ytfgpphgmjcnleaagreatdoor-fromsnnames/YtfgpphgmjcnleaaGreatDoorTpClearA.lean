/- Part of FromsnNames: the law returns true; no condition. -/
import Derived.Test.YtfgpphgmjcnleaaGreatDoorTpTopE
import Derived.Test.YtfgpphgmjcnleaaGreatDoorTpHeapC
import Derived.Test.YtfgpphgmjcnleaaGreatDoorRegS
import Derived.Test.YtfgpphgmjcnleaaGreatDoorChks
import Derived.Test.YtfgpphgmjcnleaaGreatDoorAvTac
import Derived.Test.YtfgpphgmjcnleaaGreatDoorAvAbb
set_option linter.all false
namespace Go.Av.Tp
open Go Go.Proofs
attribute [local irreducible] Vw Qv Q8 Q3g Q27 Q6
set_option maxHeartbeats 1000000
variable {Gl:Nat->Option (List PV)}
def Qp2 (n:List UInt8) (l:List (List UInt8×Int)):List (List UInt8×Int):=match Gp n 0 l with
 | some (i,_)=>l.eraseIdx i
 | none=>l
def Qox (x:Int) (l:List RTp):List RTp:=match Un x 0 l with
 | some (i,_)=>l.eraseIdx i
 | none=>l
def Qqo (T:List RTp):Nat->Nat×RCl×Nat->Option (RCl×Nat)
 | 0,_=>none
 | k+1,s=>if s.1<s.2.2 then none else match T[s.1]? with
  | none=>if s.1<T.length then none else some s.2
  | some t=>match t.2.2 with
   | true=>Qqo T k (s.1+1,s.2.1,s.2.2)
   | false=>match Qn9 s.2.1.back t.1 with
    | none=>none
    | some b=>Qqo T k (s.1+1,⟨Qp2 t.2.1 s.2.1.ids,Qox t.1 s.2.1.all,b,s.2.1.next⟩,s.2.2+1)
theorem Qf1 (l:List Int):Qb5 l=Z0 (cI .i64) l:=by
 induction l with
 | nil=>rfl
 | cons x l ih=>show _::Qb5 l=_;rw [ih];rfl
theorem Qhf (ρ:Nat->Nat) (l:List (List UInt8×Int)):Q2d ρ (.map (Q4j l)) = .map (Q4j l):=by
 show AObj.map ((Q4j l).map fun p=>(p.1,Js ρ p.2))=_;unfold Q4j;rw [Nd];rfl
theorem Qhz (ρ:Nat->Nat) (l:List RTp):Q2d ρ (.map (Q0z l)) = .map (Q0z l):=by
 show AObj.map ((Q0z l).map fun p=>(p.1,Js ρ p.2))=_;unfold Q0z;rw [Nd];rfl
theorem Qr1 (ρ:Nat->Nat) (h2 : ρ 2=2) (R:Reg) (g:List (Nat×Nat)) (i:Nat) (c:List UInt8):Q2d ρ (.map ((gm R g).set i (.str c,.ptr 2 0))) = .map ((gm R g).set i (.str c,.ptr 2 0)):=by
 show AObj.map (((gm R g).set i (.str c,.ptr 2 0)).map fun p=>(p.1,Js ρ p.2))=_;rw [List.map_set]
 have:(gm R g).map (fun p=>(p.1,Js ρ p.2))=gm R g:=by unfold gm;rw [Nd];rfl
 rw [this];show AObj.map ((gm R g).set i (.str c,.ptr (ρ 2) 0))=_;rw [h2]
theorem Qlv {α β:Type} (f : α->β):∀ (l:List α) (i:Nat),(l.eraseIdx i).map f=(l.map f).eraseIdx i
 | [],i=>by cases i<;>rfl
 | x::l,0=>rfl
 | x::l,i+1=>by show f x::(l.eraseIdx i).map f=_;rw [Qlv f l i];rfl
theorem Ql6 {α:Type}:∀ (l:List α) (i:Nat) (x : α),(l.set i x).eraseIdx i=l.eraseIdx i
 | [],i,x=>rfl
 | y::l,0,x=>rfl
 | y::l,i+1,x=>by show y::(l.set i x).eraseIdx i=_;rw [Ql6 l i x];rfl
theorem Qpr (n:List UInt8) (l:List (List UInt8×Int)):(∃ i v,Gp n 0 l=some (i,v)∧(Q4j l).eraseIdx i=Q4j (Qp2 n l))∨(Gp n 0 l=none∧Qp2 n l=l):=by
 unfold Qp2
 cases h:Gp n 0 l with
 | none=>exact .inr ⟨rfl,rfl⟩
 | some q=>obtain ⟨i,v⟩:=q;exact .inl ⟨i,v,rfl,(Qlv _ _ _).symm⟩
theorem Qm6 (x:Int) (l:List RTp):(∃ i v,Un x 0 l=some (i,v)∧(Q0z l).eraseIdx i=Q0z (Qox x l))∨(Un x 0 l=none∧Qox x l=l):=by
 unfold Qox
 cases h:Un x 0 l with
 | none=>exact .inr ⟨rfl,rfl⟩
 | some q=>obtain ⟨i,v⟩:=q;exact .inl ⟨i,v,rfl,(Qlv _ _ _).symm⟩
section
variable {R:Reg} {c:List UInt8} {i:Nat}
abbrev Z8x (R:Reg) (g:List (Nat×Nat)) (i:Nat) (c:List UInt8) (T:List RTp) (C:RCl):List AObj:=
 [.cells [.map 1],.map ((gm R g).set i (.str c,.ptr 2 0)),.cells [.map 3,.map 4,.slice 1 5 0 C.back.length,.p (.int .i64 C.next)],.map (Q4j C.ids),.map (Q0z C.all),.cells (Z0 (cI .i64) C.back),.cells [.map 4],.cells (Z0 topC T)]
theorem Qqk (g:List (Nat×Nat)) (T:List RTp) (C:RCl):Q41 R g i c C ++ [.cells [.map 4],.cells (T.flatMap Q6c)]=Z8x R g i c T C:=by
 simp only [Q41,Q5k,Nx,List.nil_append,Qf1,Qi2]
abbrev Qng (R:Reg) (g:List (Nat×Nat)) (i:Nat) (c:List UInt8) (T:List RTp) (C:RCl):List AObj:=
 [.cells [.map 1],.map ((gm R g).set i (.str c,.ptr 2 0)),.cells [.map 3,.map 4,.slice 1 8 0 C.back.length,.p (.int .i64 C.next)],.map (Q4j C.ids),.map (Q0z C.all),.dead,.cells [.map 4],.cells (Z0 topC T),.cells (Z0 (cI .i64) C.back)]
theorem Qlm (g:List (Nat×Nat)) (T:List RTp) (C:RCl):((Qng R g i c T C).all (Yn (Qng R g i c T C).length))=true:=
 roE rfl (roE (Q7t (show 2<9 by decide) R g i c) (roE rfl (roE (Q2s _ _) (roE (Q2y _ _) (roE rfl (roE rfl (roE (Yw _ _ _) (roE (Yw _ _ _) roN))))))))
def Z4s (c:List UInt8) (j m n:Nat):List AV := .ptr 0 0 :: .p (.str c) :: .any :: .any :: .any::iI n :: .ptr 2 0 :: .any :: .any :: .any :: .any :: .any :: .any :: .any :: .any :: .any :: .slice 3 7 0 m::iI m::iI j::a16 (a16 (a8 []))
theorem Q7g {g:List (Nat×Nat)} {T:List RTp} {C:RCl} {ρ:Nat->Nat} {tm tm':List AV} {H:List AObj} (hρ : ρ=fun j=>if j=8 then ρ 8 else j)
  (h8 : ρ 8=5∨8 ≤ ρ 8) (h0:H[0]? = some (.cells [.map 1])) (h1:H[1]? = some (.map ((gm R g).set i (.str c,.ptr 2 0)))) (h2:H[2]? = some (.cells [.map 3,.map 4,.slice 1 (ρ 8) 0 C.back.length,.p (.int .i64 C.next)])) (h3:H[3]? = some (.map (Q4j C.ids))) (h4:H[4]? = some (.map (Q0z C.all))) (h6:H[6]? = some (.cells [.map 4])) (h7:H[7]? = some (.cells (Z0 topC T))) (hb:H[ρ 8]? = some (.cells (Z0 (cI .i64) C.back)))
  (htm:RenL ρ (KD ρ (Qng R g i c T C)) H tm tm') (href:refsLt.refsLts 9 tm'=true):Ren ρ 8 tm H tm' (Qng R g i c T C):=by
 have e:∀ j,j≠8->ρ j=j:=fun j hj=>by rw [hρ];simp [hj]
 refine ⟨htm,?_,?_,href,Qlm g T C⟩
 ·refine hE (by rw [e 0 (by decide),h0];show _=some (AObj.cells [.map (ρ 1)]);rw [e 1 (by decide)]) ?_;refine hE (by rw [e 1 (by decide),h1,Qr1 _ (e 2 (by decide))]) ?_;refine hE (by rw [e 2 (by decide),h2];show _=some (AObj.cells [.map (ρ 3),.map (ρ 4),.slice 1 (ρ 8) 0 _,.p _]);rw [e 3 (by decide),e 4 (by decide)]) ?_;refine hE (by rw [e 3 (by decide),h3,Qhf]) ?_;refine hE (by rw [e 4 (by decide),h4,Qhz]) ?_;refine hD ?_;refine hE (by rw [e 6 (by decide),h6];show _=some (AObj.cells [.map (ρ 4)]);rw [e 4 (by decide)]) ?_;refine hO (by rw [e 7 (by decide),h7]) ?_;exact hO hb hN
 show ((List.range 9).all fun i=>(!(decide (i<8)) || ρ i == i)&&(List.range 9).all fun j=>i == j || !(((Qng R g _ c T C)[i]?).any AObj.live) || !(((Qng R g _ c T C)[j]?).any AObj.live) || ρ i != ρ j)=true;rw [Lp];intro a ha;rw [Lb];rw [Nw] at ha;refine ⟨?_,?_⟩
 ·by_cases h:a<8
  ·simp [e a (by omega)]
  simp [h]
 rw [Lp];intro b hb;rw [Nw] at hb
 by_cases hab:a=b
 ·simp [hab]
 by_cases ha5:a=5
 ·subst ha5;simp [AObj.live]
 by_cases hb5:b=5
 ·subst hb5;simp [AObj.live]
 have : ρ a ≠ ρ b:=by
  by_cases a8:a=8
  ·subst a8;rw [e b (by omega)];omega
  by_cases b8:b=8
  ·subst b8;rw [e a a8];omega
  rw [e a a8,e b b8];exact hab
 simp [this]
theorem Qpf {g:List (Nat×Nat)} {T:List RTp} {C:RCl}:Q81 R g i c C (Qng R g i c T C):=by
 have key:∀ j o,(Wd C)[j]? = some o->(Qng R g i c T C)[if j=3 then 8 else 2+j]? = some (Q2d (fun j=>if j=3 then 8 else 2+j) o):=fun j o h=>by
  match j,h with
  | 0,h=>cases h;rfl
  | 1,h=>cases h;exact congrArg some (Qhf _ _).symm
  | 2,h=>cases h;exact congrArg some (Qhz _ _).symm
  | 3,h=>
   cases h;show some (AObj.cells (Z0 (cI .i64) C.back))=some (Q2d _ (.cells (Qb5 C.back)));rw [Qf1,Qct]
  | j+4,h=>simp [Wd] at h
 refine ⟨fun j=>if j=3 then 8 else 2+j,rfl,rfl,⟨⟨rfl,fun i v u h=>by simp at h⟩,?_,rfl,rfl,Q5f C⟩,fun j _=>by show 2≤if j=3 then 8 else 2+j;split<;>omega⟩;exact ⟨.inl ⟨_,key 0 _ rfl,.inl rfl⟩,.inl ⟨_,key 1 _ rfl,.inl rfl⟩,.inl ⟨_,key 2 _ rfl,.inl rfl⟩,.inl ⟨_,key 3 _ rfl,.inl rfl⟩,trivial⟩
theorem Qjq (h:Ya c 0 R=none):Ug Tryz.prog Gl 25 R [.str c] (.int .i64 0) R:=by
 refine Qot rfl fun g hg=>?_;refine Q3 k25 ?_;refine (Q3 k27 ?_:Q8 Tryz.prog Gl 27 _ _ _);refine Y4 (W7 R g 0 h) ?_;exact ⟨.p _,rfl,rfl⟩
theorem Qro {j:Nat} (h:j<4611686018427387904):IntKind.wrap .i64 ((j:Int)+1)=((j+1:Nat):Int):=by rw [IntKind.wrap_i64];omega
theorem Qi1 {g:List (Nat×Nat)} (hg:g.length=R.length) {C C':RCl} {n N:Nat} (h:Ya c 0 R=some (i,C)) (hT:C.all.length≤1000000000) (hnd:(C.all.map (·.1)).Nodup) (hl:Qqo (Q8a C.all) N (0,C,0)=some (C',n)) :
  Q8 Tryz.prog Gl 25 [.ptr 0 0,.p (.str c)] (Q41 R g i c C) (fun v H'=>v = .p (.int .i64 n)∧((C'.all ≠ []∧∃ H2,H' = .cells [.map 1] :: .map ((gm R g).set i (.str c,.ptr 2 0))::H2∧Q81 R g i c C' H')∨(C'.all = []∧H'[0]? = some (.cells [.map 1])∧H'[1]? = some (.map ((gm R g).eraseIdx i))))):=by
 refine Q3 k25 ?_;refine (Q3 k27 ?_:Q8 Tryz.prog Gl 27 _ _ _);refine Ze (Z9 R g 0 i hg h) ?_;refine (Qo (Qer hg h hT) fun v H' hv=>?_:Q8 Tryz.prog Gl 51 _ _ _);obtain ⟨T',hp,hs,hv⟩:=hv;have e:T'=Q8a C.all:=Q9f _ _ (hp.trans (Q5c _).symm) hs (Q2h _) ((hp.map (·.1)).nodup_iff.2 hnd)
 rcases hv with ⟨rfl,rfl,rfl⟩ | ⟨hne,rfl,rfl⟩
 ·rw [← e] at hl
  have hC:C'=C∧n=0:=by
   cases N with
   | zero=>cases hl
   | succ N=>
    simp only [Qqo] at hl;split at hl
    ·cases hl
    simp at hl;exact ⟨hl.1.symm,hl.2.symm⟩
  obtain ⟨rfl,rfl⟩:=hC;have ha:C'.all = []:=List.nil_perm.1 hp;refine Qk 1 ?_;refine ifF (cF (by unfold Q6;rfl)) ?_;refine ifT (cF (by rw [ha];unfold Q6;rfl)) ?_;refine Ze (Z9 R g 0 i hg h) ?_;refine ⟨rfl,.inr ⟨ha,rfl,?_⟩⟩;show some (AObj.map (((gm R g).set i (.str c,.ptr 2 0)).eraseIdx i))=_;rw [Ql6]
 rw [Qqk]
 have hTl:T'.length≤1000000000:=by rw [hp.length_eq];exact hT
 rw [← e] at hl;clear e hp hs hT hnd
 refine lpC (fun s:Nat×RCl×Nat=>Z4s c s.1 T'.length s.2.2) (fun s=>Qng R g i c T' s.2.1) (Qqo T') (0,C,0) hl (fun j=>if j=8 then 5 else j) (Q7g rfl (.inl rfl) rfl rfl rfl rfl rfl rfl rfl rfl (by repeat' first | exact rN | refine rA ?_ | refine rE rfl ?_) rfl) (fun k s hk=>?_)
 obtain ⟨j,D,m⟩:=s;simp only [Qqo] at hk;split at hk
 ·cases hk
 rename_i hmj
 cases hj:T'[j]? with
 | none=>
  rw [hj] at hk;simp only [] at hk;split at hk
  ·cases hk
  rename_i hlt;cases hk;refine ifF (cF (by unfold Q6;simpa using hlt)) ?_;refine ifP (fun hz=>?_) (fun hz=>?_)
  ·refine Ze (Z9 R g 0 i hg h) ?_;refine ⟨rfl,.inr ⟨?_,rfl,?_⟩⟩
   ·have h9:(Q0z C'.all).length=0:=by
     rw [Env.c1] at hz;unfold Q6 at hz;have:=eq_of_beq (show (((Q0z C'.all).length:Int) == 0)=true from hz);omega
    rw [Q0z,Mg] at h9;exact Cs.1 h9
   show some (AObj.map (((gm R g).set i (.str c,.ptr 2 0)).eraseIdx i))=_;rw [Ql6]
  refine ⟨rfl,.inl ⟨?_,_,rfl,?_⟩⟩
  ·intro h9;rw [Env.c1] at hz;unfold Q6 at hz;rw [h9] at hz;cases hz
  exact Qpf
 | some t=>
  rw [hj] at hk;simp only [] at hk;have hlt:=(La.1 hj).1;have hix:idx T' (j:Int)=some t:=hj;have hjw:IntKind.wrap .i64 ((j:Int)+1)=((j+1:Nat):Int):=Qro (by omega);refine ifT (cF (by unfold Q6;simpa using hlt)) ?_;refine Uo (Vy hix rfl) ?_;refine Jo (c:=topC) (e:=3) (off:=0) (n:=3) (fun _=>rfl) hix lb (by omega) ?_;obtain ⟨tid,tn,tb⟩:=t
  cases tb with
  | true=>
   simp only [] at hk;refine ⟨(k,(j+1,D,m)),hk,Ll _,fun j=>if j=8 then 8 else j,?_⟩;refine Q7g rfl (.inr (Lj _)) rfl rfl rfl rfl rfl rfl rfl rfl ?_ rfl
   repeat' first | exact rN | refine rA ?_ | refine rE rfl ?_ | refine rE (by rw [hjw];rfl) ?_
  | false=>
   simp only [] at hk
   cases hps:Qn9 D.back tid with
   | none=>rw [hps] at hk;cases hk
   | some b=>
    rw [hps] at hk;simp only [] at hk;refine Yf 6 rfl rfl ?_;have hmw:IntKind.wrap .i64 ((m:Int)+1)=((m+1:Nat):Int):=Qro (by omega)
    rcases Qpr tn D.ids with ⟨q,v,hq,he⟩ | ⟨hq,he⟩
    ·refine Ze (Q0p hq) ?_;refine Yf 6 rfl rfl ?_
     rcases Qm6 tid D.all with ⟨q2,v2,hq2,he2⟩ | ⟨hq2,he2⟩
     ·refine Ze (Xu hq2) ?_;refine Yf 7 rfl rfl ?_;refine (Qo (Q8x ?_ hps) fun v H' hv=>?_:Q8 Tryz.prog Gl 52 _ _ _)
      ·exact roE rfl (roE (Q7t (show 2<12 by decide) R g i c) (roE rfl (roE (he▸Q2s _ _) (roE (he2▸Q2y _ _) (roE rfl (roE rfl (roE (Yw _ _ _) (roE rfl roN))))))))
      obtain ⟨rfl,rfl⟩:=hv
      refine ⟨(k,(j+1,⟨Qp2 tn D.ids,Qox tid D.all,b,D.next⟩,m+1)),hk,Ll _,fun j=>if j=8 then 11 else j,?_⟩
      refine Q7g rfl (.inr (by decide)) rfl rfl rfl (congrArg (fun l=>some (AObj.map l)) he) (congrArg (fun l=>some (AObj.map l)) he2) rfl rfl rfl ?_ rfl
      repeat' first | exact rN | refine rA ?_ | refine rE rfl ?_ | refine rE (by rw [hjw];rfl) ?_ | refine rE (by rw [hmw];rfl) ?_
     refine Y4 (Xw hq2) ?_;refine Yf 7 rfl rfl ?_;refine (Qo (Q8x ?_ hps) fun v H' hv=>?_:Q8 Tryz.prog Gl 52 _ _ _)
     ·exact roE rfl (roE (Q7t (show 2<12 by decide) R g i c) (roE rfl (roE (he▸Q2s _ _) (roE (Q2y _ _) (roE rfl (roE rfl (roE (Yw _ _ _) (roE rfl roN))))))))
     obtain ⟨rfl,rfl⟩:=hv
     refine ⟨(k,(j+1,⟨Qp2 tn D.ids,Qox tid D.all,b,D.next⟩,m+1)),hk,Ll _,fun j=>if j=8 then 11 else j,?_⟩
     refine Q7g rfl (.inr (by decide)) rfl rfl rfl (congrArg (fun l=>some (AObj.map l)) he) (congrArg (fun l=>some (AObj.map (Q0z l))) he2.symm) rfl rfl rfl ?_ rfl
     repeat' first | exact rN | refine rA ?_ | refine rE rfl ?_ | refine rE (by rw [hjw];rfl) ?_ | refine rE (by rw [hmw];rfl) ?_
    refine Y4 (V7 hq) ?_;refine Yf 6 rfl rfl ?_
    rcases Qm6 tid D.all with ⟨q2,v2,hq2,he2⟩ | ⟨hq2,he2⟩
    ·refine Ze (Xu hq2) ?_;refine Yf 7 rfl rfl ?_;refine (Qo (Q8x ?_ hps) fun v H' hv=>?_:Q8 Tryz.prog Gl 52 _ _ _)
     ·exact roE rfl (roE (Q7t (show 2<12 by decide) R g i c) (roE rfl (roE (Q2s _ _) (roE (he2▸Q2y _ _) (roE rfl (roE rfl (roE (Yw _ _ _) (roE rfl roN))))))))
     obtain ⟨rfl,rfl⟩:=hv
     refine ⟨(k,(j+1,⟨Qp2 tn D.ids,Qox tid D.all,b,D.next⟩,m+1)),hk,Ll _,fun j=>if j=8 then 11 else j,?_⟩
     refine Q7g rfl (.inr (by decide)) rfl rfl rfl (congrArg (fun l=>some (AObj.map (Q4j l))) he.symm) (congrArg (fun l=>some (AObj.map l)) he2) rfl rfl rfl ?_ rfl
     repeat' first | exact rN | refine rA ?_ | refine rE rfl ?_ | refine rE (by rw [hjw];rfl) ?_ | refine rE (by rw [hmw];rfl) ?_
    refine Y4 (Xw hq2) ?_;refine Yf 7 rfl rfl ?_;refine (Qo (Q8x ?_ hps) fun v H' hv=>?_:Q8 Tryz.prog Gl 52 _ _ _)
    ·exact roE rfl (roE (Q7t (show 2<12 by decide) R g i c) (roE rfl (roE (Q2s _ _) (roE (Q2y _ _) (roE rfl (roE rfl (roE (Yw _ _ _) (roE rfl roN))))))))
    obtain ⟨rfl,rfl⟩:=hv
    refine ⟨(k,(j+1,⟨Qp2 tn D.ids,Qox tid D.all,b,D.next⟩,m+1)),hk,Ll _,fun j=>if j=8 then 11 else j,?_⟩
    refine Q7g rfl (.inr (by decide)) rfl rfl rfl (congrArg (fun l=>some (AObj.map (Q4j l))) he.symm) (congrArg (fun l=>some (AObj.map (Q0z l))) he2.symm) rfl rfl rfl ?_ rfl
    repeat' first | exact rN | refine rA ?_ | refine rE rfl ?_ | refine rE (by rw [hjw];rfl) ?_ | refine rE (by rw [hmw];rfl) ?_
def Z2r (C:RCl):Option (RCl×Nat):=Qqo (Q8a C.all) (C.all.length+1) (0,C,0)
def rClear (R:Reg) (c:List UInt8):Option (Int×Reg):=match Ya c 0 R with
 | none=>some (0,R)
 | some (i,C)=>if C.all.length≤1000000000∧(C.all.map (·.1)).Nodup then match Z2r C with
  | none=>none
  | some (C',n)=>some ((n:Int),if C'.all = [] then R.eraseIdx i else R.set i (c,C')) else none
theorem clear_ctr {r:Int×Reg} (h:rClear R c=some r):Ug Tryz.prog Gl 25 R [.str c] (.int .i64 r.1) r.2:=by
 unfold rClear at h
 cases hf:Ya c 0 R with
 | none=>rw [hf] at h;cases h;exact Qjq hf
 | some q=>
  obtain ⟨i,C⟩:=q;rw [hf] at h;simp only [] at h;split at h
  ·rename_i hc
   cases hk:Z2r C with
   | none=>rw [hk] at h;cases h
   | some q=>
    obtain ⟨C',n⟩:=q;rw [hk] at h;cases h
    by_cases ha:C'.all = []
    ·simp only [Af ha];refine Z8g rfl hf fun g hg=>Qo (Qi1 hg hf hc.1 hc.2 hk) ?_
     rintro v H' ⟨rfl,⟨h1,_⟩ | ⟨_,h2,h3⟩⟩
     ·exact absurd ha h1
     exact ⟨.p _,h2,h3⟩
    simp only [Ae ha];refine Qs8 rfl hf fun g hg=>Qo (Qi1 hg hf hc.1 hc.2 hk) ?_
    rintro v H' ⟨rfl,⟨h1,H2,_,h2⟩ | ⟨h1,_⟩⟩
    ·exact ⟨.p _,h2⟩
    exact absurd h1 ha
  cases h
end
end Go.Av.Tp
namespace Go.Av
noncomputable section
open Go.Proofs
attribute [local irreducible] Vw Qv Q8 Q3g Q27 Q6
set_option maxHeartbeats 1000000
variable {Gl:Nat->Option (List PV)}
section
variable {R:Reg} {c:List UInt8} {i:Nat} {C:RCl}
theorem Qmi (h:Ya c 0 R=none):Ug Tryz.prog Gl 13 R [.str c] (.int .i64 0) R:=by
 refine Qot rfl fun g hg=>?_;refine Q3 k13 ?_;refine (Q3 k27 ?_:Q8 Tryz.prog Gl 27 _ _ _);refine Y4 (W7 R g 0 h) ?_;exact ⟨.p _,rfl,rfl⟩
theorem Qpl (h:Ya c 0 R=some (i,C)):Ug Tryz.prog Gl 13 R [.str c] (.int .i64 (C.all.length:Int)) R:=by
 refine Vi rfl h fun g hg=>?_;refine Q3 k13 ?_;refine (Q3 k27 ?_:Q8 Tryz.prog Gl 27 _ _ _);refine Ze (Z9 R g 0 i hg h) ?_
 have e:(Q0z C.all).length=C.all.length:=by simp [Q0z]
 rw [← e];exact ⟨.p _,Ym [] rfl⟩
end
end
end Go.Av
