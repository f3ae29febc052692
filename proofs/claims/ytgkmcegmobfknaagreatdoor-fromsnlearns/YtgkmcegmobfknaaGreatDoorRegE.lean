/- Part of FromsnLearns: the law returns true; no condition. -/
import Derived.Test.YtgkmcegmobfknaaGreatDoorRegN
import Derived.Test.YtgkmcegmobfknaaGreatDoorAvSelf
set_option linter.all false
namespace Go.Av
noncomputable section
def Yx (c:List UInt8):Nat->Reg->Option (Nat×RCl)
 | _,[]=>none
 | n,(k,C)::r=>if c=k then some (n,C) else Yx c (n+1) r
def Gk (c:List UInt8):Nat->List (List UInt8×Int)->Option (Nat×Int)
 | _,[]=>none
 | n,(k,v)::r=>if c=k then some (n,v) else Gk c (n+1) r
def Js (x:Int):Nat->List (Int×List UInt8×Bool)->Option (Nat×List UInt8×Bool)
 | _,[]=>none
 | n,(k,v)::r=>if x=k then some (n,v) else Js x (n+1) r
section
variable {E:Env Prop} {x:PV} {k:Option (Nat×AV)->Prop} {es:List (PV×AV)} {i:Nat}
theorem Wk (h:Jq x i es=some none) (hk:k none):Ga E x k i es:=by rw [Q1o,h];exact hk
theorem Qhg (hk:k none):Ga E x k i []:=Wk rfl hk
theorem Xk {q:Nat×AV} (h:Jq x i es=some (some q)) (hk:k (some q)):Ga E x k i es:=by rw [Q1o,h];exact hk
end
section
variable {P:Program} {Gl:Nat->Option (List PV)}
theorem Q5m {f:Nat} {args:List AV} {H:List AObj} {r:PV} {Q:List AObj->Prop} (h:Qd P Gl f args H (fun v H'=>Frz (fun _=>False) H' v r∧Q H')):Qd P Gl f args H (fun v H'=>v = .p r∧Q H'):=by
 refine ⟨h.1,fun θ w cargs ha hH hG=>(h.2 θ w cargs ha hH hG).mono ?_⟩
 rintro e w' ⟨v,cr,H',θ',rfl,⟨hf,hq⟩,q2,q3,q4⟩
 exact ⟨.p r,cr,H',θ',rfl,⟨rfl,hq⟩,.p _ _ (Q2g q3 (fun c h=>h) (fun a o l h=>h.elim) hf q2),q3,q4⟩
theorem fzT {K:Nat->Prop} {H:List AObj} {vs:List AV} {rs:List PV} (h:FrzL K H vs rs):Frz K H (.tuple vs) (.tuple rs) := .tuple _ _ h.1 h.2
end
theorem apP {β:Type} {l m q:List β} {k:List β->Prop} (e:l++m=q) (h:k q):Qc5 l m k:=by rw [Gi,e];exact h
theorem Qes (a b:List UInt8):V2 (.str a) (.str b)=some (decide (a=b)):=by
 show some (a == b)=_
 congr 1
 by_cases h:a=b
 ·rw [Ad h];simp [h]
 rw [Ab h];simpa using h
theorem Qxm (a b:Int):V2 (.int .i64 a) (.int .i64 b)=some (decide (a=b)):=rfl
theorem Jj {c:List UInt8}:∀ (R:Reg) (g:List (Nat×Nat)) (n:Nat),Yx c n R=none->Jq (.str c) n (gm R g)=some none
 | [],g,n,_=>by simp [gm,Jq]
 | (k,C)::R,[],n,h=>by simp [gm,Jq]
 | (k,C)::R,a::g,n,h=>by
  simp only [Yx] at h;split at h
  ·cases h
  rename_i hne
  show (match V2 (.str c) (.str k) with
   | some true=>_
   | some false=>Jq (.str c) (n+1) (gm R g)
   | none=>_)=_
  rw [Qes,Ab hne];exact Jj R g (n+1) h
theorem Q0g {c:List UInt8}:∀ (R:Reg) (n i:Nat) (C:RCl),Yx c n R=some (i,C)->n≤i∧R[i - n]? = some (c,C)
 | [],n,i,C,h=>by cases h
 | (k,D)::R,n,i,C,h=>by
  simp only [Yx] at h;split at h
  ·rename_i he;cases h;subst he;exact ⟨Li _,by simp⟩
  obtain ⟨h1,h2⟩:=Q0g R (n+1) i C h;refine ⟨by omega,?_⟩;rw [show i - n=(i - (n+1))+1 by omega];exact h2
theorem Xi {c:List UInt8} {C:RCl} {x:AV}:∀ (R:Reg) (g:List (Nat×Nat)) (n i:Nat),g.length=R.length->Yx c n R=some (i,C) ->
  Jq (.str c) n ((gm R g).set (i - n) (.str c,x))=some (some (i,x))
 | [],g,n,i,_,h=>by cases h
 | (k,D)::R,[],n,i,hg,h=>by simp at hg
 | (k,D)::R,a::g,n,i,hg,h=>by
  simp only [Yx] at h;split at h
  ·rename_i he;cases h;subst he;show Jq (.str c) n (((PV.str c,AV.gptr a.1 a.2)::gm R g).set (n - n) (.str c,x))=_;rw [Cb]
   show (match V2 (.str c) (.str c) with
    | some true=>some (some (n,x))
    | some false=>_
    | none=>_)=_
   rw [Qes,Ad rfl]
  rename_i hne;have hle:=(Q0g R (n+1) i C h).1;show Jq (.str c) n (((PV.str k,AV.gptr a.1 a.2)::gm R g).set (i - n) (.str c,x))=_;rw [show i - n=(i - (n+1))+1 by omega]
  show (match V2 (.str c) (.str k) with
   | some true=>_
   | some false=>Jq (.str c) (n+1) ((gm R g).set (i - (n+1)) (.str c,x))
   | none=>_)=_
  rw [Qes,Ab hne];exact Xi R g (n+1) i (by simpa using hg) h
theorem Qqw {c:List UInt8}:∀ (l:List (List UInt8×Int)) (n:Nat),Jq (.str c) n (Q5i l)=some ((Gk c n l).map fun q=>(q.1,.p (.int .i64 q.2)))
 | [],n=>rfl
 | (k,v)::l,n=>by
  show (match V2 (.str c) (.str k) with
   | some true=>some (some (n,AV.p (.int .i64 v)))
   | some false=>Jq (.str c) (n+1) (Q5i l)
   | none=>none)=_
  rw [Qes];simp only [Gk]
  by_cases h:c=k
  ·rw [Ad h,Af h];rfl
  rw [Ab h,Ae h];exact Qqw l (n+1)
theorem Qor {x:Int}:∀ (l:List (Int×List UInt8×Bool)) (n:Nat),Jq (.int .i64 x) n (Q2n l)=some ((Js x n l).map fun q=>(q.1,.agg [.p (.int .i64 x),.p (.str q.2.1),.p (.bool q.2.2)]))
 | [],n=>rfl
 | (k,v)::l,n=>by
  show (match V2 (.int .i64 x) (.int .i64 k) with
   | some true=>some (some (n,AV.agg [.p (.int .i64 k),.p (.str v.1),.p (.bool v.2)]))
   | some false=>Jq (.int .i64 x) (n+1) (Q2n l)
   | none=>none)=_
  rw [Qxm];simp only [Js]
  by_cases h:x=k
  ·subst h;rw [Ad rfl,Af rfl];rfl
  rw [Ab h,Ae h];exact Qor l (n+1)
theorem Jx {c:List UInt8} {l:List (List UInt8×Int)} (h:Gk c 0 l=none):Jq (.str c) 0 (Q5i l)=some none:=by rw [Qqw,h];rfl
theorem Q1y {c:List UInt8} {l:List (List UInt8×Int)} {i:Nat} {v:Int} (h:Gk c 0 l=some (i,v)):Jq (.str c) 0 (Q5i l)=some (some (i,.p (.int .i64 v))):=by rw [Qqw,h];rfl
theorem Ur {x:Int} {l:List (Int×List UInt8×Bool)} (h:Js x 0 l=none):Jq (.int .i64 x) 0 (Q2n l)=some none:=by rw [Qor,h];rfl
theorem Us {x:Int} {l:List (Int×List UInt8×Bool)} {i:Nat} {v:List UInt8×Bool} (h:Js x 0 l=some (i,v)):Jq (.int .i64 x) 0 (Q2n l)=some (some (i,.agg [.p (.int .i64 x),.p (.str v.1),.p (.bool v.2)])):=by rw [Qor,h];rfl
theorem Q3n (n:Nat) (l:List (List UInt8×Int)):V3 n (.map (Q5i l))=true:=by
 show (Q5i l).all _=true;rw [Lq];intro p hp;obtain ⟨q,_,rfl⟩:=Ml.1 hp;rfl
theorem Q40 (n:Nat) (l:List (Int×List UInt8×Bool)):V3 n (.map (Q2n l))=true:=by
 show (Q2n l).all _=true;rw [Lq];intro p hp;obtain ⟨q,_,rfl⟩:=Ml.1 hp;rfl
theorem Qbl (n:Nat):∀ l:List Int,refsLt.refsLts n (Qcd l)=true
 | []=>rfl
 | x::l=>Qbl n l
theorem Q6n (C:RCl):((J0 C).all (V3 (J0 C).length))=true:=
 roE rfl (roE (Q3n _ _) (roE (Q40 _ _) (roE (Qbl _ _) roN)))
theorem Vh {R:Reg} {g:List (Nat×Nat)} {i:Nat} {k:List UInt8} {C':RCl} {H':List AObj} (more:List AObj) (e:H'=Q4l R g i k C'++more):Q9f R g i k C' H':=by
 subst e
 have key:∀ j o,(J0 C')[j]? = some o->(Q4l R g i k C'++more)[2+j]? = some (Q4c (fun j=>2+j) o):=fun j o h=>by
  have h2:=Qbk C' j;rw [h] at h2
  have:(Q4l R g i k C')[2+j]? = some (Q4c (fun j=>2+j) o):=by rw [show 2+j=j+2 by omega];exact h2
  rw [Lk (La.1 this).1];exact this
 refine ⟨fun j=>2+j,rfl,rfl,⟨⟨rfl,fun i v u h=>by simp at h⟩,?_,rfl,rfl,Q6n C'⟩,fun j _=>by show 2≤2+j;omega⟩;exact ⟨.inl ⟨_,key 0 _ rfl,.inl rfl⟩,.inl ⟨_,key 1 _ rfl,.inl rfl⟩,.inl ⟨_,key 2 _ rfl,.inl rfl⟩,.inl ⟨_,key 3 _ rfl,.inl rfl⟩,trivial⟩
theorem Qfv {R:Reg} {g:List (Nat×Nat)} {k:List UInt8} {ids:List (List UInt8×Int)} {all:List (Int×List UInt8×Bool)} {n:Int} {H':List AObj} (p:Nat) (hp:2≤p)
  (h0:H'[0]? = some (.cells [.map 1])) (h1:H'[1]? = some (.map (gm R g ++ [(.str k,.ptr (p+2) 0)]))) (h2:H'[p]? = some (.map (Q5i ids))) (h3:H'[p+1]? = some (.map (Q2n all)))
  (h4:H'[p+2]? = some (.cells [.map p,.map (p+1),.p .nilSlice,.p (.int .i64 n)])):Qkv R g k ⟨ids,all,[],n⟩ H':=by
 let ρ:Nat->Nat:=fun j=>if j=0 then p+2 else if j=1 then p else if j=2 then p+1 else H'.length+p+3+j
 refine ⟨ρ,h0,h1,⟨⟨rfl,fun i v u h=>by simp at h⟩,?_,?_,rfl,Q6n _⟩,fun j hj=>?_⟩
 ·refine ⟨.inl ⟨_,h4,.inr ⟨[.map p,.map (p+1),.p .nilSlice,.p (.int .i64 n)],[.map 1,.map 2,.slice 1 3 0 0,.p (.int .i64 n)],[],rfl,rfl,rfl,fun j v u hv hu=>?_⟩⟩,.inl ⟨.map (Q5i ids),h2,.inl ?_⟩,.inl ⟨.map (Q2n all),h3,.inl ?_⟩,.inr ⟨rfl,?_⟩,trivial⟩
  ·match j,hv,hu with
   | 0,hv,hu=>cases hv;cases hu;exact .same (.map 1)
   | 1,hv,hu=>cases hv;cases hu;exact .same (.map 2)
   | 2,hv,hu=>cases hv;cases hu;exact .nil 1 3 0
   | 3,hv,hu=>cases hv;cases hu;exact .same (.p _)
   | j+4,hv,hu=>simp at hv
  ·show AObj.map (Q5i ids) = .map ((Q5i ids).map fun p=>(p.1,Q15 ρ p.2));unfold Q5i;rw [Nj];rfl
  ·show AObj.map (Q2n all) = .map ((Q2n all).map fun p=>(p.1,Q15 ρ p.2));unfold Q2n;rw [Nj];rfl
  show _ ≤ ρ 3;simp only [ρ];rw [Ae (by omega),Ae (by omega),Ae (by omega)];omega
 ·have e4:((List.range 4).all fun i=>(!(decide (i<0)) || ρ i == i)&&(List.range 4).all fun j=>i == j || !(((J0 ⟨ids,all,[],n⟩)[i]?).any AObj.live) || !(((J0 ⟨ids,all,[],n⟩)[j]?).any AObj.live) || ρ i != ρ j)=true:=by
   rw [Lq];intro i hi;rw [Lc];refine ⟨by simp,?_⟩;rw [Lq];intro j hj;rw [Bl] at hi hj
   by_cases hij:i=j
   ·simp [hij]
   have : ρ i ≠ ρ j:=by
    simp only [ρ]
    split<;>split<;>(repeat' split)<;>omega
   simp [this]
  exact e4
 simp only [ρ]
 repeat' split
 all_goals omega
theorem Qqq {R:Reg} {g:List (Nat×Nat)} {k:List UInt8} {ids:List (List UInt8×Int)} {all:List (Int×List UInt8×Bool)} {n:Int} {H':List AObj} (more:List AObj)
  (e:H' = .cells [.map 1] :: .map (gm R g ++ [(.str k,.ptr 4 0)]) :: .map (Q5i ids) :: .map (Q2n all) :: .cells [.map 2,.map 3,.p .nilSlice,.p (.int .i64 n)]::more):Qkv R g k ⟨ids,all,[],n⟩ H':=by
 subst e;exact Qfv 2 (Li _) rfl rfl rfl rfl rfl
section
variable {P:Program} {Gl:Nat->Option (List PV)}
theorem Q9x {f:Nat} {args:List AV} {H:List AObj} {Q:AV->List AObj->Prop} (h:Qd P Gl f args H Q):Qe3 P f=true:=h.1
theorem Qza {f:Nat} {args:List PV} {r:PV} {R:Reg} {i:Nat} {k:List UInt8} {C C':RCl} (hr:Jp r=true) (hi:Yx k 0 R=some (i,C))
  (h:∀ g:List (Nat×Nat),g.length=R.length->Qd P Gl f (.ptr 0 0::args.map .p) (Q4l R g i k C) (fun v H'=>Frz (fun _=>False) H' v r∧Q9f R g i k C' H')):Q0j P Gl f R args r (R.set i (k,C')):=
 Qr9 (Q9x (h (List.replicate R.length (0,0)) (by simp))) hr (Q0g R 0 i C hi).2 fun g hg=>Q5m (h g hg)
theorem Ge {f:Nat} {args:List PV} {r:PV} {R:Reg} {i:Nat} {k:List UInt8} {C:RCl} (hr:Jp r=true) (hi:Yx k 0 R=some (i,C))
  (h:∀ g:List (Nat×Nat),g.length=R.length->Qd P Gl f (.ptr 0 0::args.map .p) (Q4l R g i k C) (fun v H'=>Frz (fun _=>False) H' v r∧Q9f R g i k C H')):Q0j P Gl f R args r R:=by
 have:=Qza hr hi h;have e:=(Q0g R 0 i C hi).2;rw [No] at e;obtain ⟨hl,he⟩:=La.1 e
 rwa [← he,List.set_getElem_self] at this
theorem Z2r {f:Nat} {args:List PV} {r:PV} {R:Reg} {k:List UInt8} {C':RCl} (hr:Jp r=true)
  (h:∀ g:List (Nat×Nat),g.length=R.length->Qd P Gl f (.ptr 0 0::args.map .p) (Ub R g) (fun v H'=>Frz (fun _=>False) H' v r∧Qkv R g k C' H')):Q0j P Gl f R args r (R ++ [(k,C')]):=
 Qsa (Q9x (h (List.replicate R.length (0,0)) (by simp))) hr fun g hg=>Q5m (h g hg)
theorem Qwl {f:Nat} {args:List PV} {r:PV} {R:Reg} (hr:Jp r=true)
  (h:∀ g:List (Nat×Nat),g.length=R.length->Qd P Gl f (.ptr 0 0::args.map .p) (Ub R g) (fun v H'=>Frz (fun _=>False) H' v r∧H'[0]? = some (.cells [.map 1])∧H'[1]? = some (.map (gm R g)))):Q0j P Gl f R args r R:=
 Qth (Q9x (h (List.replicate R.length (0,0)) (by simp))) hr fun g hg=>Q5m (h g hg)
theorem Z2j {f:Nat} (hc:Qd P Gl f [] [] (fun v H'=>∃ i j,v = .ptr j 0∧H'[j]? = some (.cells [.map i])∧H'[i]? = some (.map [])∧i≠j)):Qjs P Gl f:=Qo7 hc.1 hc
end
theorem Qol (l:List (List UInt8×Int)) (c:List UInt8) (v:Int):Q5i l ++ [(.str c,.p (.int .i64 v))]=Q5i (l ++ [(c,v)]):=by simp [Q5i]
theorem Qqi (l:List (Int×List UInt8×Bool)) (x:Int) (n:List UInt8) (b:Bool):Q2n l ++ [(.int .i64 x,.agg [.p (.int .i64 x),.p (.str n),.p (.bool b)])]=Q2n (l ++ [(x,n,b)]):=by simp [Q2n]
theorem Q8g {n:Nat} (hn:2<n) (R:Reg) (g:List (Nat×Nat)) (i:Nat) (k:List UInt8):V3 n (.map ((gm R g).set i (.str k,.ptr 2 0)))=true:=by
 show ((gm R g).set i _).all _=true;rw [Lq];intro p hp
 rcases Bk hp with h | rfl
 ·obtain ⟨q,_,rfl⟩:=Ml.1 h;rfl
 exact Ad hn
theorem Qpn (R:Reg) (g:List (Nat×Nat)) (i:Nat) (k:List UInt8) (C:RCl):((Q4l R g i k C).all (V3 (Q4l R g i k C).length))=true:=
 roE rfl (roE (Q8g (show 2<6 by decide) R g i k) (roE rfl (roE (Q3n _ _) (roE (Q40 _ _) (roE (Qbl _ _) roN)))))
theorem Z10 {R:Reg} {g:List (Nat×Nat)} {i:Nat} {k:List UInt8} {C:RCl} {n:Nat} {tm tm':List AV} {H:List AObj} (more:List AObj) (e:H=Q4l R g i k C++more)
  (h1:RenL (fun i=>i) (KD (fun i=>i) (Q4l R g i k C)) H tm tm') (h4:refsLt.refsLts 6 tm'=true):Ren (fun i=>i) n tm H tm' (Q4l R g i k C):=by
 subst e;exact ⟨h1,Qj9 0 _ (fun j o h=>by rw [Me,Lk (La.1 h).1];exact h),Qpe n _,h4,Qpn R g i k C⟩
def Q2b (all:List (Int×List UInt8×Bool)):Nat->Int->Option (Int×Int)
 | 0,_=>none
 | k+1,n=>if 1≤n then (if n≤65534 then (match Js n 0 all with
  | none=>some (n,n+1)
  | some _=>Q2b all k (n+1)) else some (0,n)) else none
end
end Go.Av
