/- Part of FromsnLearns: the law returns true; no condition. -/
import Derived.Test.YtgkmcegmobfknaaGreatDoorTpTopE
import Derived.Test.YtgkmcegmobfknaaGreatDoorTpHeapC
set_option linter.all false
namespace Go.Av.Tp
open Go Go.Proofs
attribute [local irreducible] Ga Wb Qd Q4s Q3q Q2
set_option maxHeartbeats 1000000
variable {Gl:Nat->Option (List PV)}
def Qun (n:List UInt8) (l:List (List UInt8×Int)):List (List UInt8×Int):=match Gk n 0 l with
 | some (i,_)=>l.eraseIdx i
 | none=>l
def Qmq (x:Int) (l:List RTp):List RTp:=match Js x 0 l with
 | some (i,_)=>l.eraseIdx i
 | none=>l
def Qrk (T:List RTp):Nat->Nat×RCl×Nat->Option (RCl×Nat)
 | 0,_=>none
 | k+1,s=>if s.1<s.2.2 then none else match T[s.1]? with
  | none=>if s.1<T.length then none else some s.2
  | some t=>match t.2.2 with
   | true=>Qrk T k (s.1+1,s.2.1,s.2.2)
   | false=>match Qmc s.2.1.back t.1 with
    | none=>none
    | some b=>Qrk T k (s.1+1,⟨Qun t.2.1 s.2.1.ids,Qmq t.1 s.2.1.all,b,s.2.1.next⟩,s.2.2+1)
theorem Qga (l:List Int):Qcd l=Yl (cI .i64) l:=by
 induction l with
 | nil=>rfl
 | cons x l ih=>show _::Qcd l=_;rw [ih];rfl
theorem Qk4 (ρ:Nat->Nat) (l:List (List UInt8×Int)):Q4c ρ (.map (Q5i l)) = .map (Q5i l):=by
 show AObj.map ((Q5i l).map fun p=>(p.1,Q15 ρ p.2))=_;unfold Q5i;rw [Nj];rfl
theorem Qk0 (ρ:Nat->Nat) (l:List RTp):Q4c ρ (.map (Q2n l)) = .map (Q2n l):=by
 show AObj.map ((Q2n l).map fun p=>(p.1,Q15 ρ p.2))=_;unfold Q2n;rw [Nj];rfl
theorem Qxi (ρ:Nat->Nat) (h2 : ρ 2=2) (R:Reg) (g:List (Nat×Nat)) (i:Nat) (c:List UInt8):Q4c ρ (.map ((gm R g).set i (.str c,.ptr 2 0))) = .map ((gm R g).set i (.str c,.ptr 2 0)):=by
 show AObj.map (((gm R g).set i (.str c,.ptr 2 0)).map fun p=>(p.1,Q15 ρ p.2))=_;rw [List.map_set]
 have:(gm R g).map (fun p=>(p.1,Q15 ρ p.2))=gm R g:=by unfold gm;rw [Nj];rfl
 rw [this];show AObj.map ((gm R g).set i (.str c,.ptr (ρ 2) 0))=_;rw [h2]
theorem Qgy {α β:Type} (f : α->β):∀ (l:List α) (i:Nat),(l.eraseIdx i).map f=(l.map f).eraseIdx i
 | [],i=>by cases i<;>rfl
 | x::l,0=>rfl
 | x::l,i+1=>by show f x::(l.eraseIdx i).map f=_;rw [Qgy f l i];rfl
theorem Qo2 {α:Type}:∀ (l:List α) (i:Nat) (x : α),(l.set i x).eraseIdx i=l.eraseIdx i
 | [],i,x=>rfl
 | y::l,0,x=>rfl
 | y::l,i+1,x=>by show y::(l.set i x).eraseIdx i=_;rw [Qo2 l i x];rfl
theorem Qxs (n:List UInt8) (l:List (List UInt8×Int)):(∃ i v,Gk n 0 l=some (i,v)∧(Q5i l).eraseIdx i=Q5i (Qun n l))∨(Gk n 0 l=none∧Qun n l=l):=by
 unfold Qun
 cases h:Gk n 0 l with
 | none=>exact .inr ⟨rfl,rfl⟩
 | some q=>obtain ⟨i,v⟩:=q;exact .inl ⟨i,v,rfl,(Qgy _ _ _).symm⟩
theorem Qpb (x:Int) (l:List RTp):(∃ i v,Js x 0 l=some (i,v)∧(Q2n l).eraseIdx i=Q2n (Qmq x l))∨(Js x 0 l=none∧Qmq x l=l):=by
 unfold Qmq
 cases h:Js x 0 l with
 | none=>exact .inr ⟨rfl,rfl⟩
 | some q=>obtain ⟨i,v⟩:=q;exact .inl ⟨i,v,rfl,(Qgy _ _ _).symm⟩
section
variable {R:Reg} {c:List UInt8} {i:Nat}
abbrev Z7k (R:Reg) (g:List (Nat×Nat)) (i:Nat) (c:List UInt8) (T:List RTp) (C:RCl):List AObj:=
 [.cells [.map 1],.map ((gm R g).set i (.str c,.ptr 2 0)),.cells [.map 3,.map 4,.slice 1 5 0 C.back.length,.p (.int .i64 C.next)],.map (Q5i C.ids),.map (Q2n C.all),.cells (Yl (cI .i64) C.back),.cells [.map 4],.cells (Yl topC T)]
theorem Qx6 (g:List (Nat×Nat)) (T:List RTp) (C:RCl):Q4l R g i c C ++ [.cells [.map 4],.cells (T.flatMap Q7v)]=Z7k R g i c T C:=by
 simp only [Q4l,Q6r,Nx,Nv,Qga,Qku]
abbrev Qtb (R:Reg) (g:List (Nat×Nat)) (i:Nat) (c:List UInt8) (T:List RTp) (C:RCl):List AObj:=
 [.cells [.map 1],.map ((gm R g).set i (.str c,.ptr 2 0)),.cells [.map 3,.map 4,.slice 1 8 0 C.back.length,.p (.int .i64 C.next)],.map (Q5i C.ids),.map (Q2n C.all),.dead,.cells [.map 4],.cells (Yl topC T),.cells (Yl (cI .i64) C.back)]
theorem Qo8 (g:List (Nat×Nat)) (T:List RTp) (C:RCl):((Qtb R g i c T C).all (V3 (Qtb R g i c T C).length))=true:=
 roE rfl (roE (Q8g (show 2<9 by decide) R g i c) (roE rfl (roE (Q3n _ _) (roE (Q40 _ _) (roE rfl (roE rfl (roE (Vk _ _ _) (roE (Vk _ _ _) roN))))))))
def Z7i (c:List UInt8) (j m n:Nat):List AV := .ptr 0 0 :: .p (.str c) :: .any :: .any :: .any::iI n :: .ptr 2 0 :: .any :: .any :: .any :: .any :: .any :: .any :: .any :: .any :: .any :: .slice 3 7 0 m::iI m::iI j::a16 (a16 (a8 []))
theorem Q8e {g:List (Nat×Nat)} {T:List RTp} {C:RCl} {ρ:Nat->Nat} {tm tm':List AV} {H:List AObj} (hρ : ρ=fun j=>if j=8 then ρ 8 else j)
  (h8 : ρ 8=5∨8 ≤ ρ 8) (h0:H[0]? = some (.cells [.map 1])) (h1:H[1]? = some (.map ((gm R g).set i (.str c,.ptr 2 0)))) (h2:H[2]? = some (.cells [.map 3,.map 4,.slice 1 (ρ 8) 0 C.back.length,.p (.int .i64 C.next)])) (h3:H[3]? = some (.map (Q5i C.ids))) (h4:H[4]? = some (.map (Q2n C.all))) (h6:H[6]? = some (.cells [.map 4])) (h7:H[7]? = some (.cells (Yl topC T))) (hb:H[ρ 8]? = some (.cells (Yl (cI .i64) C.back)))
  (htm:RenL ρ (KD ρ (Qtb R g i c T C)) H tm tm') (href:refsLt.refsLts 9 tm'=true):Ren ρ 8 tm H tm' (Qtb R g i c T C):=by
 have e:∀ j,j≠8->ρ j=j:=fun j hj=>by rw [hρ];simp [hj]
 refine ⟨htm,?_,?_,href,Qo8 g T C⟩
 ·refine hE (by rw [e 0 (by decide),h0];show _=some (AObj.cells [.map (ρ 1)]);rw [e 1 (by decide)]) ?_;refine hE (by rw [e 1 (by decide),h1,Qxi _ (e 2 (by decide))]) ?_;refine hE (by rw [e 2 (by decide),h2];show _=some (AObj.cells [.map (ρ 3),.map (ρ 4),.slice 1 (ρ 8) 0 _,.p _]);rw [e 3 (by decide),e 4 (by decide)]) ?_;refine hE (by rw [e 3 (by decide),h3,Qk4]) ?_;refine hE (by rw [e 4 (by decide),h4,Qk0]) ?_;refine hD ?_;refine hE (by rw [e 6 (by decide),h6];show _=some (AObj.cells [.map (ρ 4)]);rw [e 4 (by decide)]) ?_;refine hO (by rw [e 7 (by decide),h7]) ?_;exact hO hb hN
 show ((List.range 9).all fun i=>(!(decide (i<8)) || ρ i == i)&&(List.range 9).all fun j=>i == j || !(((Qtb R g _ c T C)[i]?).any AObj.live) || !(((Qtb R g _ c T C)[j]?).any AObj.live) || ρ i != ρ j)=true;rw [Lq];intro a ha;rw [Lc];rw [Bl] at ha;refine ⟨?_,?_⟩
 ·by_cases h:a<8
  ·simp [e a (by omega)]
  simp [h]
 rw [Lq];intro b hb;rw [Bl] at hb
 by_cases hab:a=b
 ·simp [hab]
 by_cases ha5:a=5
 ·subst ha5;simp [AObj.live]
 by_cases hb5:b=5
 ·subst hb5;simp [AObj.live]
 have : ρ a ≠ ρ b:=by
  by_cases a8:a=8
  ·subst a8;rw [e b (by omega)];omega
  by_cases b8:b=8
  ·subst b8;rw [e a a8];omega
  rw [e a a8,e b b8];exact hab
 simp [this]
theorem Qwu {g:List (Nat×Nat)} {T:List RTp} {C:RCl}:Q9f R g i c C (Qtb R g i c T C):=by
 have key:∀ j o,(J0 C)[j]? = some o->(Qtb R g i c T C)[if j=3 then 8 else 2+j]? = some (Q4c (fun j=>if j=3 then 8 else 2+j) o):=fun j o h=>by
  match j,h with
  | 0,h=>cases h;rfl
  | 1,h=>cases h;exact congrArg some (Qk4 _ _).symm
  | 2,h=>cases h;exact congrArg some (Qk0 _ _).symm
  | 3,h=>
   cases h;show some (AObj.cells (Yl (cI .i64) C.back))=some (Q4c _ (.cells (Qcd C.back)));rw [Qga,Qeh]
  | j+4,h=>simp [J0] at h
 refine ⟨fun j=>if j=3 then 8 else 2+j,rfl,rfl,⟨⟨rfl,fun i v u h=>by simp at h⟩,?_,rfl,rfl,Q6n C⟩,fun j _=>by show 2≤if j=3 then 8 else 2+j;split<;>omega⟩;exact ⟨.inl ⟨_,key 0 _ rfl,.inl rfl⟩,.inl ⟨_,key 1 _ rfl,.inl rfl⟩,.inl ⟨_,key 2 _ rfl,.inl rfl⟩,.inl ⟨_,key 3 _ rfl,.inl rfl⟩,trivial⟩
theorem Qms (h:Yx c 0 R=none):Q0j Tryz.prog Gl 30 R [.str c] (.int .i64 0) R:=by
 refine Qwl rfl fun g hg=>?_;refine Q6 k30 ?_;refine (Q6 k23 ?_:Qd Tryz.prog Gl 23 _ _ _);refine Wk (Jj R g 0 h) ?_;exact ⟨.p _,rfl,rfl⟩
theorem Qz0 {j:Nat} (h:j<4611686018427387904):IntKind.wrap .i64 ((j:Int)+1)=((j+1:Nat):Int):=by rw [IntKind.wrap_i64];omega
theorem Ql5 {g:List (Nat×Nat)} (hg:g.length=R.length) {C C':RCl} {n N:Nat} (h:Yx c 0 R=some (i,C)) (hT:C.all.length≤1000000000) (hnd:(C.all.map (·.1)).Nodup) (hl:Qrk (Q49 C.all) N (0,C,0)=some (C',n)) :
  Qd Tryz.prog Gl 30 [.ptr 0 0,.p (.str c)] (Q4l R g i c C) (fun v H'=>v = .p (.int .i64 n)∧((C'.all ≠ []∧∃ H2,H' = .cells [.map 1] :: .map ((gm R g).set i (.str c,.ptr 2 0))::H2∧Q9f R g i c C' H')∨(C'.all = []∧H'[0]? = some (.cells [.map 1])∧H'[1]? = some (.map ((gm R g).eraseIdx i))))):=by
 refine Q6 k30 ?_;refine (Q6 k23 ?_:Qd Tryz.prog Gl 23 _ _ _);refine Xk (Xi R g 0 i hg h) ?_;refine (Y9 (Qgj hg h hT) fun v H' hv=>?_:Qd Tryz.prog Gl 8 _ _ _);obtain ⟨T',hp,hs,hv⟩:=hv;have e:T'=Q49 C.all:=Qat _ _ (hp.trans (Xr _).symm) hs (Q41 _) ((hp.map (·.1)).nodup_iff.2 hnd)
 rcases hv with ⟨rfl,rfl,rfl⟩ | ⟨hne,rfl,rfl⟩
 ·rw [← e] at hl
  have hC:C'=C∧n=0:=by
   cases N with
   | zero=>cases hl
   | succ N=>
    simp only [Qrk] at hl;split at hl
    ·cases hl
    simp at hl;exact ⟨hl.1.symm,hl.2.symm⟩
  obtain ⟨rfl,rfl⟩:=hC;have ha:C'.all = []:=List.nil_perm.1 hp;refine Z2 1 ?_;refine ifF (cF (by unfold Q2;rfl)) ?_;refine ifT (cF (by rw [ha];unfold Q2;rfl)) ?_;refine Xk (Xi R g 0 i hg h) ?_;refine ⟨rfl,.inr ⟨ha,rfl,?_⟩⟩;show some (AObj.map (((gm R g).set i (.str c,.ptr 2 0)).eraseIdx i))=_;rw [Qo2]
 rw [Qx6]
 have hTl:T'.length≤1000000000:=by rw [hp.length_eq];exact hT
 rw [← e] at hl;clear e hp hs hT hnd
 refine lpC (fun s:Nat×RCl×Nat=>Z7i c s.1 T'.length s.2.2) (fun s=>Qtb R g i c T' s.2.1) (Qrk T') (0,C,0) hl (fun j=>if j=8 then 5 else j) (Q8e rfl (.inl rfl) rfl rfl rfl rfl rfl rfl rfl rfl (by repeat' first | exact rN | refine rA ?_ | refine rE rfl ?_) rfl) (fun k s hk=>?_)
 obtain ⟨j,D,m⟩:=s;simp only [Qrk] at hk;split at hk
 ·cases hk
 rename_i hmj
 cases hj:T'[j]? with
 | none=>
  rw [hj] at hk;simp only [] at hk;split at hk
  ·cases hk
  rename_i hlt;cases hk;refine ifF (cF (by unfold Q2;simpa using hlt)) ?_;refine ifP (fun hz=>?_) (fun hz=>?_)
  ·refine Xk (Xi R g 0 i hg h) ?_;refine ⟨rfl,.inr ⟨?_,rfl,?_⟩⟩
   ·have h9:(Q2n C'.all).length=0:=by
     rw [Env.c1] at hz;unfold Q2 at hz;have:=eq_of_beq (show (((Q2n C'.all).length:Int) == 0)=true from hz);omega
    rw [Q2n,Lp] at h9;exact Ef.1 h9
   show some (AObj.map (((gm R g).set i (.str c,.ptr 2 0)).eraseIdx i))=_;rw [Qo2]
  refine ⟨rfl,.inl ⟨?_,_,rfl,?_⟩⟩
  ·intro h9;rw [Env.c1] at hz;unfold Q2 at hz;rw [h9] at hz;cases hz
  exact Qwu
 | some t=>
  rw [hj] at hk;simp only [] at hk;have hlt:=(La.1 hj).1;have hix:idx T' (j:Int)=some t:=hj;have hjw:IntKind.wrap .i64 ((j:Int)+1)=((j+1:Nat):Int):=Qz0 (by omega);refine ifT (cF (by unfold Q2;simpa using hlt)) ?_;refine Q0n (G9 hix rfl) ?_;refine Q6t (c:=topC) (e:=3) (off:=0) (n:=3) (fun _=>rfl) hix lb (by omega) ?_;obtain ⟨tid,tn,tb⟩:=t
  cases tb with
  | true=>
   simp only [] at hk;refine ⟨(k,(j+1,D,m)),hk,Lg _,fun j=>if j=8 then 8 else j,?_⟩;refine Q8e rfl (.inr (Li _)) rfl rfl rfl rfl rfl rfl rfl rfl ?_ rfl
   repeat' first | exact rN | refine rA ?_ | refine rE rfl ?_ | refine rE (by rw [hjw];rfl) ?_
  | false=>
   simp only [] at hk
   cases hps:Qmc D.back tid with
   | none=>rw [hps] at hk;cases hk
   | some b=>
    rw [hps] at hk;simp only [] at hk;refine Xx 6 rfl rfl ?_;have hmw:IntKind.wrap .i64 ((m:Int)+1)=((m+1:Nat):Int):=Qz0 (by omega)
    rcases Qxs tn D.ids with ⟨q,v,hq,he⟩ | ⟨hq,he⟩
    ·refine Xk (Q1y hq) ?_;refine Xx 6 rfl rfl ?_
     rcases Qpb tid D.all with ⟨q2,v2,hq2,he2⟩ | ⟨hq2,he2⟩
     ·refine Xk (Us hq2) ?_;refine Xx 7 rfl rfl ?_;refine (Y9 (Q9p ?_ hps) fun v H' hv=>?_:Qd Tryz.prog Gl 66 _ _ _)
      ·exact roE rfl (roE (Q8g (show 2<12 by decide) R g i c) (roE rfl (roE (he▸Q3n _ _) (roE (he2▸Q40 _ _) (roE rfl (roE rfl (roE (Vk _ _ _) (roE rfl roN))))))))
      obtain ⟨rfl,rfl⟩:=hv
      refine ⟨(k,(j+1,⟨Qun tn D.ids,Qmq tid D.all,b,D.next⟩,m+1)),hk,Lg _,fun j=>if j=8 then 11 else j,?_⟩
      refine Q8e rfl (.inr (by decide)) rfl rfl rfl (congrArg (fun l=>some (AObj.map l)) he) (congrArg (fun l=>some (AObj.map l)) he2) rfl rfl rfl ?_ rfl
      repeat' first | exact rN | refine rA ?_ | refine rE rfl ?_ | refine rE (by rw [hjw];rfl) ?_ | refine rE (by rw [hmw];rfl) ?_
     refine Wk (Ur hq2) ?_;refine Xx 7 rfl rfl ?_;refine (Y9 (Q9p ?_ hps) fun v H' hv=>?_:Qd Tryz.prog Gl 66 _ _ _)
     ·exact roE rfl (roE (Q8g (show 2<12 by decide) R g i c) (roE rfl (roE (he▸Q3n _ _) (roE (Q40 _ _) (roE rfl (roE rfl (roE (Vk _ _ _) (roE rfl roN))))))))
     obtain ⟨rfl,rfl⟩:=hv
     refine ⟨(k,(j+1,⟨Qun tn D.ids,Qmq tid D.all,b,D.next⟩,m+1)),hk,Lg _,fun j=>if j=8 then 11 else j,?_⟩
     refine Q8e rfl (.inr (by decide)) rfl rfl rfl (congrArg (fun l=>some (AObj.map l)) he) (congrArg (fun l=>some (AObj.map (Q2n l))) he2.symm) rfl rfl rfl ?_ rfl
     repeat' first | exact rN | refine rA ?_ | refine rE rfl ?_ | refine rE (by rw [hjw];rfl) ?_ | refine rE (by rw [hmw];rfl) ?_
    refine Wk (Jx hq) ?_;refine Xx 6 rfl rfl ?_
    rcases Qpb tid D.all with ⟨q2,v2,hq2,he2⟩ | ⟨hq2,he2⟩
    ·refine Xk (Us hq2) ?_;refine Xx 7 rfl rfl ?_;refine (Y9 (Q9p ?_ hps) fun v H' hv=>?_:Qd Tryz.prog Gl 66 _ _ _)
     ·exact roE rfl (roE (Q8g (show 2<12 by decide) R g i c) (roE rfl (roE (Q3n _ _) (roE (he2▸Q40 _ _) (roE rfl (roE rfl (roE (Vk _ _ _) (roE rfl roN))))))))
     obtain ⟨rfl,rfl⟩:=hv
     refine ⟨(k,(j+1,⟨Qun tn D.ids,Qmq tid D.all,b,D.next⟩,m+1)),hk,Lg _,fun j=>if j=8 then 11 else j,?_⟩
     refine Q8e rfl (.inr (by decide)) rfl rfl rfl (congrArg (fun l=>some (AObj.map (Q5i l))) he.symm) (congrArg (fun l=>some (AObj.map l)) he2) rfl rfl rfl ?_ rfl
     repeat' first | exact rN | refine rA ?_ | refine rE rfl ?_ | refine rE (by rw [hjw];rfl) ?_ | refine rE (by rw [hmw];rfl) ?_
    refine Wk (Ur hq2) ?_;refine Xx 7 rfl rfl ?_;refine (Y9 (Q9p ?_ hps) fun v H' hv=>?_:Qd Tryz.prog Gl 66 _ _ _)
    ·exact roE rfl (roE (Q8g (show 2<12 by decide) R g i c) (roE rfl (roE (Q3n _ _) (roE (Q40 _ _) (roE rfl (roE rfl (roE (Vk _ _ _) (roE rfl roN))))))))
    obtain ⟨rfl,rfl⟩:=hv
    refine ⟨(k,(j+1,⟨Qun tn D.ids,Qmq tid D.all,b,D.next⟩,m+1)),hk,Lg _,fun j=>if j=8 then 11 else j,?_⟩
    refine Q8e rfl (.inr (by decide)) rfl rfl rfl (congrArg (fun l=>some (AObj.map (Q5i l))) he.symm) (congrArg (fun l=>some (AObj.map (Q2n l))) he2.symm) rfl rfl rfl ?_ rfl
    repeat' first | exact rN | refine rA ?_ | refine rE rfl ?_ | refine rE (by rw [hjw];rfl) ?_ | refine rE (by rw [hmw];rfl) ?_
def Z2c (C:RCl):Option (RCl×Nat):=Qrk (Q49 C.all) (C.all.length+1) (0,C,0)
def rClear (R:Reg) (c:List UInt8):Option (Int×Reg):=match Yx c 0 R with
 | none=>some (0,R)
 | some (i,C)=>if C.all.length≤1000000000∧(C.all.map (·.1)).Nodup then match Z2c C with
  | none=>none
  | some (C',n)=>some ((n:Int),if C'.all = [] then R.eraseIdx i else R.set i (c,C')) else none
theorem clear_ctr {r:Int×Reg} (h:rClear R c=some r):Q0j Tryz.prog Gl 30 R [.str c] (.int .i64 r.1) r.2:=by
 unfold rClear at h
 cases hf:Yx c 0 R with
 | none=>rw [hf] at h;cases h;exact Qms hf
 | some q=>
  obtain ⟨i,C⟩:=q;rw [hf] at h;simp only [] at h;split at h
  ·rename_i hc
   cases hk:Z2c C with
   | none=>rw [hk] at h;cases h
   | some q=>
    obtain ⟨C',n⟩:=q;rw [hk] at h;cases h
    by_cases ha:C'.all = []
    ·simp only [Af ha];refine Z7g rfl hf fun g hg=>Y9 (Ql5 hg hf hc.1 hc.2 hk) ?_
     rintro v H' ⟨rfl,⟨h1,_⟩ | ⟨_,h2,h3⟩⟩
     ·exact absurd ha h1
     exact ⟨.p _,h2,h3⟩
    simp only [Ae ha];refine Qza rfl hf fun g hg=>Y9 (Ql5 hg hf hc.1 hc.2 hk) ?_
    rintro v H' ⟨rfl,⟨h1,H2,_,h2⟩ | ⟨h1,_⟩⟩
    ·exact ⟨.p _,h2⟩
    exact absurd h1 ha
  cases h
end
end Go.Av.Tp
