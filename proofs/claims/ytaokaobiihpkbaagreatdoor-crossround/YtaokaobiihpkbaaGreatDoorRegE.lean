/- Part of the proof of CrossRound: for every input the law returns true; no condition. -/
import Derived.Test.YtaokaobiihpkbaaGreatDoorRegN
import Derived.Test.YtaokaobiihpkbaaGreatDoorAvAbb
set_option linter.all false
namespace Go.Av
noncomputable section
def J2 (c:List UInt8):Nat→Reg→Option (Nat×RCl)
 | _,[]=>none
 | n,(k,C)::r=>if c=k then some (n,C) else J2 c (n+1) r
def Q0z (c:List UInt8):Nat→List (List UInt8×Int)→Option (Nat×Int)
 | _,[]=>none
 | n,(k,v)::r=>if c=k then some (n,v) else Q0z c (n+1) r
def Q3c (x:Int):Nat→List (Int×List UInt8×Bool)→Option (Nat×List UInt8×Bool)
 | _,[]=>none
 | n,(k,v)::r=>if x=k then some (n,v) else Q3c x (n+1) r
section
variable {E:Env Prop} {x:PV} {k:Option (Nat×AV)→Prop} {es:List (PV×AV)} {i:Nat}
theorem U6 (h:Jc x i es=some none) (hk:k none):Q2g E x k i es:=by rw [Q28,h];exact hk
theorem Qi9 (hk:k none):Q2g E x k i []:=U6 rfl hk
theorem Vr {q:Nat×AV} (h:Jc x i es=some (some q)) (hk:k (some q)):Q2g E x k i es:=by rw [Q28,h];exact hk
end
section
variable {P:Program} {Gl:Nat→Option (List PV)}
theorem Q98 {f:Nat} {args:List AV} {H:List AObj} {r:PV} {Q:List AObj→Prop} (h:Qu P Gl f args H (fun v H'=>Frz (fun _=>False) H' v r∧Q H')):Qu P Gl f args H (fun v H'=>v = .p r∧Q H'):=by
 refine ⟨h.1,fun θ w cargs ha hH hG=>(h.2 θ w cargs ha hH hG).mono ?_⟩
 rintro e w' ⟨v,cr,H',θ',rfl,⟨hf,hq⟩,q2,q3,q4⟩
 exact ⟨.p r,cr,H',θ',rfl,⟨rfl,hq⟩,.p _ _ (Q62 q3 (fun c h=>h) (fun a o l h=>h.elim) hf q2),q3,q4⟩
theorem fzT {K:Nat→Prop} {H:List AObj} {vs:List AV} {rs:List PV} (h:FrzL K H vs rs):Frz K H (.tuple vs) (.tuple rs) := .tuple _ _ h.1 h.2
end
theorem apP {β:Type} {l m q:List β} {k:List β→Prop} (e:l++m=q) (h:k q):Qga l m k:=by rw [Gi,e];exact h
theorem Qg5 (a b:List UInt8):Wa (.str a) (.str b)=some (decide (a=b)):=by
 show some (a == b)=_
 congr 1
 by_cases h:a=b
 ·rw [decide_eq_true h];simp [h]
 rw [decide_eq_false h];simpa using h
theorem Qtx (a b:Int):Wa (.int .i64 a) (.int .i64 b)=some (decide (a=b)):=rfl
theorem Q0q {c:List UInt8}:∀ (R:Reg) (g:List (Nat×Nat)) (n:Nat),J2 c n R=none→Jc (.str c) n (gm R g)=some none
 | [],g,n,_=>by simp [gm,Jc]
 | (k,C)::R,[],n,h=>by simp [gm,Jc]
 | (k,C)::R,a::g,n,h=>by
  simp only [J2] at h;split at h
  ·cases h
  rename_i hne
  show (match Wa (.str c) (.str k) with
   | some true=>_
   | some false=>Jc (.str c) (n+1) (gm R g)
   | none=>_)=_
  rw [Qg5,decide_eq_false hne];exact Q0q R g (n+1) h
theorem Q42 {c:List UInt8}:∀ (R:Reg) (n i:Nat) (C:RCl),J2 c n R=some (i,C)→n≤i∧R[i - n]? = some (c,C)
 | [],n,i,C,h=>by cases h
 | (k,D)::R,n,i,C,h=>by
  simp only [J2] at h;split at h
  ·rename_i he;cases h;subst he;exact ⟨Ll _,by simp⟩
  obtain ⟨h1,h2⟩:=Q42 R (n+1) i C h;refine ⟨by omega,?_⟩;rw [show i - n=(i - (n+1))+1 by omega];exact h2
theorem Ve {c:List UInt8} {C:RCl} {x:AV}:∀ (R:Reg) (g:List (Nat×Nat)) (n i:Nat),g.length=R.length→J2 c n R=some (i,C) →
  Jc (.str c) n ((gm R g).set (i - n) (.str c,x))=some (some (i,x))
 | [],g,n,i,_,h=>by cases h
 | (k,D)::R,[],n,i,hg,h=>by simp at hg
 | (k,D)::R,a::g,n,i,hg,h=>by
  simp only [J2] at h;split at h
  ·rename_i he;cases h;subst he;show Jc (.str c) n (((PV.str c,AV.gptr a.1 a.2)::gm R g).set (n - n) (.str c,x))=_;rw [Bv]
   show (match Wa (.str c) (.str c) with
    | some true=>some (some (n,x))
    | some false=>_
    | none=>_)=_
   rw [Qg5,decide_eq_true rfl]
  rename_i hne;have hle:=(Q42 R (n+1) i C h).1;show Jc (.str c) n (((PV.str k,AV.gptr a.1 a.2)::gm R g).set (i - n) (.str c,x))=_;rw [show i - n=(i - (n+1))+1 by omega]
  show (match Wa (.str c) (.str k) with
   | some true=>_
   | some false=>Jc (.str c) (n+1) ((gm R g).set (i - (n+1)) (.str c,x))
   | none=>_)=_
  rw [Qg5,decide_eq_false hne];exact Ve R g (n+1) i (by simpa using hg) h
theorem Qpt {c:List UInt8}:∀ (l:List (List UInt8×Int)) (n:Nat),Jc (.str c) n (Qcb l)=some ((Q0z c n l).map fun q=>(q.1,.p (.int .i64 q.2)))
 | [],n=>rfl
 | (k,v)::l,n=>by
  show (match Wa (.str c) (.str k) with
   | some true=>some (some (n,AV.p (.int .i64 v)))
   | some false=>Jc (.str c) (n+1) (Qcb l)
   | none=>none)=_
  rw [Qg5];simp only [Q0z]
  by_cases h:c=k
  ·rw [decide_eq_true h,if_pos h];rfl
  rw [decide_eq_false h,if_neg h];exact Qpt l (n+1)
theorem Qo7 {x:Int}:∀ (l:List (Int×List UInt8×Bool)) (n:Nat),Jc (.int .i64 x) n (Qb4 l)=some ((Q3c x n l).map fun q=>(q.1,.agg [.p (.int .i64 x),.p (.str q.2.1),.p (.bool q.2.2)]))
 | [],n=>rfl
 | (k,v)::l,n=>by
  show (match Wa (.int .i64 x) (.int .i64 k) with
   | some true=>some (some (n,AV.agg [.p (.int .i64 k),.p (.str v.1),.p (.bool v.2)]))
   | some false=>Jc (.int .i64 x) (n+1) (Qb4 l)
   | none=>none)=_
  rw [Qtx];simp only [Q3c]
  by_cases h:x=k
  ·subst h;rw [decide_eq_true rfl,if_pos rfl];rfl
  rw [decide_eq_false h,if_neg h];exact Qo7 l (n+1)
theorem Gn {c:List UInt8} {l:List (List UInt8×Int)} (h:Q0z c 0 l=none):Jc (.str c) 0 (Qcb l)=some none:=by rw [Qpt,h];rfl
theorem Q4b {c:List UInt8} {l:List (List UInt8×Int)} {i:Nat} {v:Int} (h:Q0z c 0 l=some (i,v)):Jc (.str c) 0 (Qcb l)=some (some (i,.p (.int .i64 v))):=by rw [Qpt,h];rfl
theorem Gp {x:Int} {l:List (Int×List UInt8×Bool)} (h:Q3c x 0 l=none):Jc (.int .i64 x) 0 (Qb4 l)=some none:=by rw [Qo7,h];rfl
theorem Q14 {x:Int} {l:List (Int×List UInt8×Bool)} {i:Nat} {v:List UInt8×Bool} (h:Q3c x 0 l=some (i,v)):Jc (.int .i64 x) 0 (Qb4 l)=some (some (i,.agg [.p (.int .i64 x),.p (.str v.1),.p (.bool v.2)])):=by rw [Qo7,h];rfl
theorem Qkv (n:Nat) (l:List (List UInt8×Int)):Ut n (.map (Qcb l))=true:=by
 show (Qcb l).all _=true;rw [Lp];intro p hp;obtain ⟨q,_,rfl⟩:=Mz.1 hp;rfl
theorem Qk6 (n:Nat) (l:List (Int×List UInt8×Bool)):Ut n (.map (Qb4 l))=true:=by
 show (Qb4 l).all _=true;rw [Lp];intro p hp;obtain ⟨q,_,rfl⟩:=Mz.1 hp;rfl
theorem Qcq (n:Nat):∀ l:List Int,refsLt.refsLts n (Qjj l)=true
 | []=>rfl
 | x::l=>Qcq n l
theorem Qco (C:RCl):((J1 C).all (Ut (J1 C).length))=true:=
 roE rfl (roE (Qkv _ _) (roE (Qk6 _ _) (roE (Qcq _ _) roN)))
theorem Ue {R:Reg} {g:List (Nat×Nat)} {i:Nat} {k:List UInt8} {C':RCl} {H':List AObj} (more:List AObj) (e:H'=Qgb R g i k C'++more):Qej R g i k C' H':=by
 subst e
 have key:∀ j o,(J1 C')[j]? = some o→(Qgb R g i k C'++more)[2+j]? = some (Q6o (fun j=>2+j) o):=fun j o h=>by
  have h2:=Qc4 C' j;rw [h] at h2
  have:(Qgb R g i k C')[2+j]? = some (Q6o (fun j=>2+j) o):=by rw [show 2+j=j+2 by omega];exact h2
  rw [Lk (La.1 this).1];exact this
 refine ⟨fun j=>2+j,rfl,rfl,⟨⟨rfl,fun i v u h=>by simp at h⟩,?_,rfl,rfl,Qco C'⟩,fun j _=>by show 2≤2+j;omega⟩;exact ⟨.inl ⟨_,key 0 _ rfl,.inl rfl⟩,.inl ⟨_,key 1 _ rfl,.inl rfl⟩,.inl ⟨_,key 2 _ rfl,.inl rfl⟩,.inl ⟨_,key 3 _ rfl,.inl rfl⟩,trivial⟩
theorem Qhz {R:Reg} {g:List (Nat×Nat)} {k:List UInt8} {ids:List (List UInt8×Int)} {all:List (Int×List UInt8×Bool)} {n:Int} {H':List AObj} (p:Nat) (hp:2≤p)
  (h0:H'[0]? = some (.cells [.map 1])) (h1:H'[1]? = some (.map (gm R g ++ [(.str k,.ptr (p+2) 0)]))) (h2:H'[p]? = some (.map (Qcb ids))) (h3:H'[p+1]? = some (.map (Qb4 all)))
  (h4:H'[p+2]? = some (.cells [.map p,.map (p+1),.p .nilSlice,.p (.int .i64 n)])):Qly R g k ⟨ids,all,[],n⟩ H':=by
 let ρ:Nat→Nat:=fun j=>if j=0 then p+2 else if j=1 then p else if j=2 then p+1 else H'.length+p+3+j
 refine ⟨ρ,h0,h1,⟨⟨rfl,fun i v u h=>by simp at h⟩,?_,?_,rfl,Qco _⟩,fun j hj=>?_⟩
 ·refine ⟨.inl ⟨_,h4,.inr ⟨[.map p,.map (p+1),.p .nilSlice,.p (.int .i64 n)],[.map 1,.map 2,.slice 1 3 0 0,.p (.int .i64 n)],[],rfl,rfl,rfl,fun j v u hv hu=>?_⟩⟩,.inl ⟨.map (Qcb ids),h2,.inl ?_⟩,.inl ⟨.map (Qb4 all),h3,.inl ?_⟩,.inr ⟨rfl,?_⟩,trivial⟩
  ·match j,hv,hu with
   | 0,hv,hu=>cases hv;cases hu;exact .same (.map 1)
   | 1,hv,hu=>cases hv;cases hu;exact .same (.map 2)
   | 2,hv,hu=>cases hv;cases hu;exact .nil 1 3 0
   | 3,hv,hu=>cases hv;cases hu;exact .same (.p _)
   | j+4,hv,hu=>simp at hv
  ·show AObj.map (Qcb ids) = .map ((Qcb ids).map fun p=>(p.1,Q1v ρ p.2));unfold Qcb;rw [Bx];rfl
  ·show AObj.map (Qb4 all) = .map ((Qb4 all).map fun p=>(p.1,Q1v ρ p.2));unfold Qb4;rw [Bx];rfl
  show _ ≤ ρ 3;simp only [ρ];rw [if_neg (by omega),if_neg (by omega),if_neg (by omega)];omega
 ·have e4:((List.range 4).all fun i=>(!(decide (i<0)) || ρ i == i)&&(List.range 4).all fun j=>i == j || !(((J1 ⟨ids,all,[],n⟩)[i]?).any AObj.live) || !(((J1 ⟨ids,all,[],n⟩)[j]?).any AObj.live) || ρ i != ρ j)=true:=by
   rw [Lp];intro i hi;rw [Lb];refine ⟨by simp,?_⟩;rw [Lp];intro j hj;rw [Ca] at hi hj
   by_cases hij:i=j
   ·simp [hij]
   have : ρ i ≠ ρ j:=by
    simp only [ρ]
    split<;>split<;>(repeat' split)<;>omega
   simp [this]
  exact e4
 simp only [ρ]
 repeat' split
 all_goals omega
theorem Qo1 {R:Reg} {g:List (Nat×Nat)} {k:List UInt8} {ids:List (List UInt8×Int)} {all:List (Int×List UInt8×Bool)} {n:Int} {H':List AObj} (more:List AObj)
  (e:H' = .cells [.map 1] :: .map (gm R g ++ [(.str k,.ptr 4 0)]) :: .map (Qcb ids) :: .map (Qb4 all) :: .cells [.map 2,.map 3,.p .nilSlice,.p (.int .i64 n)]::more):Qly R g k ⟨ids,all,[],n⟩ H':=by
 subst e;exact Qhz 2 (Ll _) rfl rfl rfl rfl rfl
section
variable {P:Program} {Gl:Nat→Option (List PV)}
theorem Qfn {f:Nat} {args:List AV} {H:List AObj} {Q:AV→List AObj→Prop} (h:Qu P Gl f args H Q):Qn5 P f=true:=h.1
theorem Qyz {f:Nat} {args:List PV} {r:PV} {R:Reg} {i:Nat} {k:List UInt8} {C C':RCl} (hr:J3 r=true) (hi:J2 k 0 R=some (i,C))
  (h:∀ g:List (Nat×Nat),g.length=R.length→Qu P Gl f (.ptr 0 0::args.map .p) (Qgb R g i k C) (fun v H'=>Frz (fun _=>False) H' v r∧Qej R g i k C' H')):Q2x P Gl f R args r (R.set i (k,C')):=
 Qrp (Qfn (h (List.replicate R.length (0,0)) (by simp))) hr (Q42 R 0 i C hi).2 fun g hg=>Q98 (h g hg)
theorem Q1c {f:Nat} {args:List PV} {r:PV} {R:Reg} {i:Nat} {k:List UInt8} {C:RCl} (hr:J3 r=true) (hi:J2 k 0 R=some (i,C))
  (h:∀ g:List (Nat×Nat),g.length=R.length→Qu P Gl f (.ptr 0 0::args.map .p) (Qgb R g i k C) (fun v H'=>Frz (fun _=>False) H' v r∧Qej R g i k C H')):Q2x P Gl f R args r R:=by
 have:=Qyz hr hi h;have e:=(Q42 R 0 i C hi).2;rw [Nat.sub_zero] at e;obtain ⟨hl,he⟩:=La.1 e
 rwa [← he,List.set_getElem_self] at this
theorem Z1o {f:Nat} {args:List PV} {r:PV} {R:Reg} {k:List UInt8} {C':RCl} (hr:J3 r=true)
  (h:∀ g:List (Nat×Nat),g.length=R.length→Qu P Gl f (.ptr 0 0::args.map .p) (Q0v R g) (fun v H'=>Frz (fun _=>False) H' v r∧Qly R g k C' H')):Q2x P Gl f R args r (R ++ [(k,C')]):=
 Qrv (Qfn (h (List.replicate R.length (0,0)) (by simp))) hr fun g hg=>Q98 (h g hg)
theorem Qwu {f:Nat} {args:List PV} {r:PV} {R:Reg} (hr:J3 r=true)
  (h:∀ g:List (Nat×Nat),g.length=R.length→Qu P Gl f (.ptr 0 0::args.map .p) (Q0v R g) (fun v H'=>Frz (fun _=>False) H' v r∧H'[0]? = some (.cells [.map 1])∧H'[1]? = some (.map (gm R g)))):Q2x P Gl f R args r R:=
 Qqu (Qfn (h (List.replicate R.length (0,0)) (by simp))) hr fun g hg=>Q98 (h g hg)
theorem Qzb {f:Nat} (hc:Qu P Gl f [] [] (fun v H'=>∃ i j,v = .ptr j 0∧H'[j]? = some (.cells [.map i])∧H'[i]? = some (.map [])∧i≠j)):Ql5 P Gl f:=Qoy hc.1 hc
end
theorem Qp8 (l:List (List UInt8×Int)) (c:List UInt8) (v:Int):Qcb l ++ [(.str c,.p (.int .i64 v))]=Qcb (l ++ [(c,v)]):=by simp [Qcb]
theorem Qp3 (l:List (Int×List UInt8×Bool)) (x:Int) (n:List UInt8) (b:Bool):Qb4 l ++ [(.int .i64 x,.agg [.p (.int .i64 x),.p (.str n),.p (.bool b)])]=Qb4 (l ++ [(x,n,b)]):=by simp [Qb4]
theorem Quo {n:Nat} (hn:2<n) (R:Reg) (g:List (Nat×Nat)) (i:Nat) (k:List UInt8):Ut n (.map ((gm R g).set i (.str k,.ptr 2 0)))=true:=by
 show ((gm R g).set i _).all _=true;rw [Lp];intro p hp
 rcases Bu hp with h | rfl
 ·obtain ⟨q,_,rfl⟩:=Mz.1 h;rfl
 exact decide_eq_true hn
theorem Qox (R:Reg) (g:List (Nat×Nat)) (i:Nat) (k:List UInt8) (C:RCl):((Qgb R g i k C).all (Ut (Qgb R g i k C).length))=true:=
 roE rfl (roE (Quo (show 2<6 by decide) R g i k) (roE rfl (roE (Qkv _ _) (roE (Qk6 _ _) (roE (Qcq _ _) roN)))))
theorem Qyo {R:Reg} {g:List (Nat×Nat)} {i:Nat} {k:List UInt8} {C:RCl} {n:Nat} {tm tm':List AV} {H:List AObj} (more:List AObj) (e:H=Qgb R g i k C++more)
  (h1:RenL (fun i=>i) (KD (fun i=>i) (Qgb R g i k C)) H tm tm') (h4:refsLt.refsLts 6 tm'=true):Ren (fun i=>i) n tm H tm' (Qgb R g i k C):=by
 subst e;exact ⟨h1,Qjl 0 _ (fun j o h=>by rw [Md,Lk (La.1 h).1];exact h),Qpu n _,h4,Qox R g i k C⟩
def Q3v (all:List (Int×List UInt8×Bool)):Nat→Int→Option (Int×Int)
 | 0,_=>none
 | k+1,n=>if 1≤n then (if n≤65534 then (match Q3c n 0 all with
  | none=>some (n,n+1)
  | some _=>Q3v all k (n+1)) else some (0,n)) else none
end
end Go.Av
