/- Part of FromsnNames: the law returns true; no condition. -/
import Derived.Test.YtfgpphgmjcnleaaGreatDoorRegN
import Derived.Test.YtfgpphgmjcnleaaGreatDoorAvAbb
set_option linter.all false
namespace Go.Av
noncomputable section
def Ya (c:List UInt8):Nat->Reg->Option (Nat×RCl)
 | _,[]=>none
 | n,(k,C)::r=>if c=k then some (n,C) else Ya c (n+1) r
def Gp (c:List UInt8):Nat->List (List UInt8×Int)->Option (Nat×Int)
 | _,[]=>none
 | n,(k,v)::r=>if c=k then some (n,v) else Gp c (n+1) r
def Un (x:Int):Nat->List (Int×List UInt8×Bool)->Option (Nat×List UInt8×Bool)
 | _,[]=>none
 | n,(k,v)::r=>if x=k then some (n,v) else Un x (n+1) r
section
variable {E:Env Prop} {x:PV} {k:Option (Nat×AV)->Prop} {es:List (PV×AV)} {i:Nat}
theorem Y4 (h:V4 x i es=some none) (hk:k none):Vw E x k i es:=by rw [Q0c,h];exact hk
theorem Qfj (hk:k none):Vw E x k i []:=Y4 rfl hk
theorem Ze {q:Nat×AV} (h:V4 x i es=some (some q)) (hk:k (some q)):Vw E x k i es:=by rw [Q0c,h];exact hk
end
section
variable {P:Program} {Gl:Nat->Option (List PV)}
theorem Q4h {f:Nat} {args:List AV} {H:List AObj} {r:PV} {Q:List AObj->Prop} (h:Q8 P Gl f args H (fun v H'=>Frz (fun _=>False) H' v r∧Q H')):Q8 P Gl f args H (fun v H'=>v = .p r∧Q H'):=by
 refine ⟨h.1,fun θ w cargs ha hH hG=>(h.2 θ w cargs ha hH hG).mono ?_⟩
 rintro e w' ⟨v,cr,H',θ',rfl,⟨hf,hq⟩,q2,q3,q4⟩
 exact ⟨.p r,cr,H',θ',rfl,⟨rfl,hq⟩,.p _ _ (Q1i q3 (fun c h=>h) (fun a o l h=>h.elim) hf q2),q3,q4⟩
theorem fzT {K:Nat->Prop} {H:List AObj} {vs:List AV} {rs:List PV} (h:FrzL K H vs rs):Frz K H (.tuple vs) (.tuple rs) := .tuple _ _ h.1 h.2
end
theorem apP {β:Type} {l m q:List β} {k:List β->Prop} (e:l++m=q) (h:k q):Qb1 l m k:=by rw [Vn,e];exact h
theorem Qdp (a b:List UInt8):Y9 (.str a) (.str b)=some (decide (a=b)):=by
 show some (a == b)=_
 congr 1
 by_cases h:a=b
 ·rw [Ad h];simp [h]
 rw [Ab h];simpa using h
theorem Qp4 (a b:Int):Y9 (.int .i64 a) (.int .i64 b)=some (decide (a=b)):=rfl
theorem W7 {c:List UInt8}:∀ (R:Reg) (g:List (Nat×Nat)) (n:Nat),Ya c n R=none->V4 (.str c) n (gm R g)=some none
 | [],g,n,_=>by simp [gm,V4]
 | (k,C)::R,[],n,h=>by simp [gm,V4]
 | (k,C)::R,a::g,n,h=>by
  simp only [Ya] at h;split at h
  ·cases h
  rename_i hne
  show (match Y9 (.str c) (.str k) with
   | some true=>_
   | some false=>V4 (.str c) (n+1) (gm R g)
   | none=>_)=_
  rw [Qdp,Ab hne];exact W7 R g (n+1) h
theorem Gh {c:List UInt8}:∀ (R:Reg) (n i:Nat) (C:RCl),Ya c n R=some (i,C)->n≤i∧R[i - n]? = some (c,C)
 | [],n,i,C,h=>by cases h
 | (k,D)::R,n,i,C,h=>by
  simp only [Ya] at h;split at h
  ·rename_i he;cases h;subst he;exact ⟨Lj _,by simp⟩
  obtain ⟨h1,h2⟩:=Gh R (n+1) i C h;refine ⟨by omega,?_⟩;rw [show i - n=(i - (n+1))+1 by omega];exact h2
theorem Z9 {c:List UInt8} {C:RCl} {x:AV}:∀ (R:Reg) (g:List (Nat×Nat)) (n i:Nat),g.length=R.length->Ya c n R=some (i,C) ->
  V4 (.str c) n ((gm R g).set (i - n) (.str c,x))=some (some (i,x))
 | [],g,n,i,_,h=>by cases h
 | (k,D)::R,[],n,i,hg,h=>by simp at hg
 | (k,D)::R,a::g,n,i,hg,h=>by
  simp only [Ya] at h;split at h
  ·rename_i he;cases h;subst he;show V4 (.str c) n (((PV.str c,AV.gptr a.1 a.2)::gm R g).set (n - n) (.str c,x))=_;rw [Bw]
   show (match Y9 (.str c) (.str c) with
    | some true=>some (some (n,x))
    | some false=>_
    | none=>_)=_
   rw [Qdp,Ad rfl]
  rename_i hne;have hle:=(Gh R (n+1) i C h).1;show V4 (.str c) n (((PV.str k,AV.gptr a.1 a.2)::gm R g).set (i - n) (.str c,x))=_;rw [show i - n=(i - (n+1))+1 by omega]
  show (match Y9 (.str c) (.str k) with
   | some true=>_
   | some false=>V4 (.str c) (n+1) ((gm R g).set (i - (n+1)) (.str c,x))
   | none=>_)=_
  rw [Qdp,Ab hne];exact Z9 R g (n+1) i (by simpa using hg) h
theorem Qk1 {c:List UInt8}:∀ (l:List (List UInt8×Int)) (n:Nat),V4 (.str c) n (Q4j l)=some ((Gp c n l).map fun q=>(q.1,.p (.int .i64 q.2)))
 | [],n=>rfl
 | (k,v)::l,n=>by
  show (match Y9 (.str c) (.str k) with
   | some true=>some (some (n,AV.p (.int .i64 v)))
   | some false=>V4 (.str c) (n+1) (Q4j l)
   | none=>none)=_
  rw [Qdp];simp only [Gp]
  by_cases h:c=k
  ·rw [Ad h,Af h];rfl
  rw [Ab h,Ae h];exact Qk1 l (n+1)
theorem Qkt {x:Int}:∀ (l:List (Int×List UInt8×Bool)) (n:Nat),V4 (.int .i64 x) n (Q0z l)=some ((Un x n l).map fun q=>(q.1,.agg [.p (.int .i64 x),.p (.str q.2.1),.p (.bool q.2.2)]))
 | [],n=>rfl
 | (k,v)::l,n=>by
  show (match Y9 (.int .i64 x) (.int .i64 k) with
   | some true=>some (some (n,AV.agg [.p (.int .i64 k),.p (.str v.1),.p (.bool v.2)]))
   | some false=>V4 (.int .i64 x) (n+1) (Q0z l)
   | none=>none)=_
  rw [Qp4];simp only [Un]
  by_cases h:x=k
  ·subst h;rw [Ad rfl,Af rfl];rfl
  rw [Ab h,Ae h];exact Qkt l (n+1)
theorem V7 {c:List UInt8} {l:List (List UInt8×Int)} (h:Gp c 0 l=none):V4 (.str c) 0 (Q4j l)=some none:=by rw [Qk1,h];rfl
theorem Q0p {c:List UInt8} {l:List (List UInt8×Int)} {i:Nat} {v:Int} (h:Gp c 0 l=some (i,v)):V4 (.str c) 0 (Q4j l)=some (some (i,.p (.int .i64 v))):=by rw [Qk1,h];rfl
theorem Xw {x:Int} {l:List (Int×List UInt8×Bool)} (h:Un x 0 l=none):V4 (.int .i64 x) 0 (Q0z l)=some none:=by rw [Qkt,h];rfl
theorem Xu {x:Int} {l:List (Int×List UInt8×Bool)} {i:Nat} {v:List UInt8×Bool} (h:Un x 0 l=some (i,v)):V4 (.int .i64 x) 0 (Q0z l)=some (some (i,.agg [.p (.int .i64 x),.p (.str v.1),.p (.bool v.2)])):=by rw [Qkt,h];rfl
theorem Q2s (n:Nat) (l:List (List UInt8×Int)):Yn n (.map (Q4j l))=true:=by
 show (Q4j l).all _=true;rw [Lp];intro p hp;obtain ⟨q,_,rfl⟩:=Mm.1 hp;rfl
theorem Q2y (n:Nat) (l:List (Int×List UInt8×Bool)):Yn n (.map (Q0z l))=true:=by
 show (Q0z l).all _=true;rw [Lp];intro p hp;obtain ⟨q,_,rfl⟩:=Mm.1 hp;rfl
theorem Qaj (n:Nat):∀ l:List Int,refsLt.refsLts n (Qb5 l)=true
 | []=>rfl
 | x::l=>Qaj n l
theorem Q5f (C:RCl):((Wd C).all (Yn (Wd C).length))=true:=
 roE rfl (roE (Q2s _ _) (roE (Q2y _ _) (roE (Qaj _ _) roN)))
theorem Ym {R:Reg} {g:List (Nat×Nat)} {i:Nat} {k:List UInt8} {C':RCl} {H':List AObj} (more:List AObj) (e:H'=Q41 R g i k C'++more):Q81 R g i k C' H':=by
 subst e
 have key:∀ j o,(Wd C')[j]? = some o->(Q41 R g i k C'++more)[2+j]? = some (Q2d (fun j=>2+j) o):=fun j o h=>by
  have h2:=Q9w C' j;rw [h] at h2
  have:(Q41 R g i k C')[2+j]? = some (Q2d (fun j=>2+j) o):=by rw [show 2+j=j+2 by omega];exact h2
  rw [Lh (La.1 this).1];exact this
 refine ⟨fun j=>2+j,rfl,rfl,⟨⟨rfl,fun i v u h=>by simp at h⟩,?_,rfl,rfl,Q5f C'⟩,fun j _=>by show 2≤2+j;omega⟩;exact ⟨.inl ⟨_,key 0 _ rfl,.inl rfl⟩,.inl ⟨_,key 1 _ rfl,.inl rfl⟩,.inl ⟨_,key 2 _ rfl,.inl rfl⟩,.inl ⟨_,key 3 _ rfl,.inl rfl⟩,trivial⟩
theorem Qfm {R:Reg} {g:List (Nat×Nat)} {k:List UInt8} {ids:List (List UInt8×Int)} {all:List (Int×List UInt8×Bool)} {n:Int} {H':List AObj} (p:Nat) (hp:2≤p)
  (h0:H'[0]? = some (.cells [.map 1])) (h1:H'[1]? = some (.map (gm R g ++ [(.str k,.ptr (p+2) 0)]))) (h2:H'[p]? = some (.map (Q4j ids))) (h3:H'[p+1]? = some (.map (Q0z all)))
  (h4:H'[p+2]? = some (.cells [.map p,.map (p+1),.p .nilSlice,.p (.int .i64 n)])):Qhq R g k ⟨ids,all,[],n⟩ H':=by
 let ρ:Nat->Nat:=fun j=>if j=0 then p+2 else if j=1 then p else if j=2 then p+1 else H'.length+p+3+j
 refine ⟨ρ,h0,h1,⟨⟨rfl,fun i v u h=>by simp at h⟩,?_,?_,rfl,Q5f _⟩,fun j hj=>?_⟩
 ·refine ⟨.inl ⟨_,h4,.inr ⟨[.map p,.map (p+1),.p .nilSlice,.p (.int .i64 n)],[.map 1,.map 2,.slice 1 3 0 0,.p (.int .i64 n)],[],rfl,rfl,rfl,fun j v u hv hu=>?_⟩⟩,.inl ⟨.map (Q4j ids),h2,.inl ?_⟩,.inl ⟨.map (Q0z all),h3,.inl ?_⟩,.inr ⟨rfl,?_⟩,trivial⟩
  ·match j,hv,hu with
   | 0,hv,hu=>cases hv;cases hu;exact .same (.map 1)
   | 1,hv,hu=>cases hv;cases hu;exact .same (.map 2)
   | 2,hv,hu=>cases hv;cases hu;exact .nil 1 3 0
   | 3,hv,hu=>cases hv;cases hu;exact .same (.p _)
   | j+4,hv,hu=>simp at hv
  ·show AObj.map (Q4j ids) = .map ((Q4j ids).map fun p=>(p.1,Js ρ p.2));unfold Q4j;rw [Nd];rfl
  ·show AObj.map (Q0z all) = .map ((Q0z all).map fun p=>(p.1,Js ρ p.2));unfold Q0z;rw [Nd];rfl
  show _ ≤ ρ 3;simp only [ρ];rw [Ae (by omega),Ae (by omega),Ae (by omega)];omega
 ·have e4:((List.range 4).all fun i=>(!(decide (i<0)) || ρ i == i)&&(List.range 4).all fun j=>i == j || !(((Wd ⟨ids,all,[],n⟩)[i]?).any AObj.live) || !(((Wd ⟨ids,all,[],n⟩)[j]?).any AObj.live) || ρ i != ρ j)=true:=by
   rw [Lp];intro i hi;rw [Lb];refine ⟨by simp,?_⟩;rw [Lp];intro j hj;rw [Nw] at hi hj
   by_cases hij:i=j
   ·simp [hij]
   have : ρ i ≠ ρ j:=by
    simp only [ρ]
    split<;>split<;>(repeat' split)<;>omega
   simp [this]
  exact e4
 simp only [ρ]
 repeat' split
 all_goals omega
theorem Qmd {R:Reg} {g:List (Nat×Nat)} {k:List UInt8} {ids:List (List UInt8×Int)} {all:List (Int×List UInt8×Bool)} {n:Int} {H':List AObj} (more:List AObj)
  (e:H' = .cells [.map 1] :: .map (gm R g ++ [(.str k,.ptr 4 0)]) :: .map (Q4j ids) :: .map (Q0z all) :: .cells [.map 2,.map 3,.p .nilSlice,.p (.int .i64 n)]::more):Qhq R g k ⟨ids,all,[],n⟩ H':=by
 subst e;exact Qfm 2 (Lj _) rfl rfl rfl rfl rfl
section
variable {P:Program} {Gl:Nat->Option (List PV)}
theorem Q8t {f:Nat} {args:List AV} {H:List AObj} {Q:AV->List AObj->Prop} (h:Q8 P Gl f args H Q):Qd0 P f=true:=h.1
theorem Qs8 {f:Nat} {args:List PV} {r:PV} {R:Reg} {i:Nat} {k:List UInt8} {C C':RCl} (hr:Wf r=true) (hi:Ya k 0 R=some (i,C))
  (h:∀ g:List (Nat×Nat),g.length=R.length->Q8 P Gl f (.ptr 0 0::args.map .p) (Q41 R g i k C) (fun v H'=>Frz (fun _=>False) H' v r∧Q81 R g i k C' H')):Ug P Gl f R args r (R.set i (k,C')):=
 Qne (Q8t (h (List.replicate R.length (0,0)) (by simp))) hr (Gh R 0 i C hi).2 fun g hg=>Q4h (h g hg)
theorem Vi {f:Nat} {args:List PV} {r:PV} {R:Reg} {i:Nat} {k:List UInt8} {C:RCl} (hr:Wf r=true) (hi:Ya k 0 R=some (i,C))
  (h:∀ g:List (Nat×Nat),g.length=R.length->Q8 P Gl f (.ptr 0 0::args.map .p) (Q41 R g i k C) (fun v H'=>Frz (fun _=>False) H' v r∧Q81 R g i k C H')):Ug P Gl f R args r R:=by
 have:=Qs8 hr hi h;have e:=(Gh R 0 i C hi).2;rw [Cr] at e;obtain ⟨hl,he⟩:=La.1 e
 rwa [← he,List.set_getElem_self] at this
theorem Qxt {f:Nat} {args:List PV} {r:PV} {R:Reg} {k:List UInt8} {C':RCl} (hr:Wf r=true)
  (h:∀ g:List (Nat×Nat),g.length=R.length->Q8 P Gl f (.ptr 0 0::args.map .p) (Xi R g) (fun v H'=>Frz (fun _=>False) H' v r∧Qhq R g k C' H')):Ug P Gl f R args r (R ++ [(k,C')]):=
 Qmv (Q8t (h (List.replicate R.length (0,0)) (by simp))) hr fun g hg=>Q4h (h g hg)
theorem Qot {f:Nat} {args:List PV} {r:PV} {R:Reg} (hr:Wf r=true)
  (h:∀ g:List (Nat×Nat),g.length=R.length->Q8 P Gl f (.ptr 0 0::args.map .p) (Xi R g) (fun v H'=>Frz (fun _=>False) H' v r∧H'[0]? = some (.cells [.map 1])∧H'[1]? = some (.map (gm R g)))):Ug P Gl f R args r R:=
 Qnt (Q8t (h (List.replicate R.length (0,0)) (by simp))) hr fun g hg=>Q4h (h g hg)
theorem Qtx {f:Nat} (hc:Q8 P Gl f [] [] (fun v H'=>∃ i j,v = .ptr j 0∧H'[j]? = some (.cells [.map i])∧H'[i]? = some (.map [])∧i≠j)):Qhl P Gl f:=Qm5 hc.1 hc
end
theorem Qm0 (l:List (List UInt8×Int)) (c:List UInt8) (v:Int):Q4j l ++ [(.str c,.p (.int .i64 v))]=Q4j (l ++ [(c,v)]):=by simp [Q4j]
theorem Qkk (l:List (Int×List UInt8×Bool)) (x:Int) (n:List UInt8) (b:Bool):Q0z l ++ [(.int .i64 x,.agg [.p (.int .i64 x),.p (.str n),.p (.bool b)])]=Q0z (l ++ [(x,n,b)]):=by simp [Q0z]
theorem Q7t {n:Nat} (hn:2<n) (R:Reg) (g:List (Nat×Nat)) (i:Nat) (k:List UInt8):Yn n (.map ((gm R g).set i (.str k,.ptr 2 0)))=true:=by
 show ((gm R g).set i _).all _=true;rw [Lp];intro p hp
 rcases List.mem_or_eq_of_mem_set hp with h | rfl
 ·obtain ⟨q,_,rfl⟩:=Mm.1 h;rfl
 exact Ad hn
theorem Ql4 (R:Reg) (g:List (Nat×Nat)) (i:Nat) (k:List UInt8) (C:RCl):((Q41 R g i k C).all (Yn (Q41 R g i k C).length))=true:=
 roE rfl (roE (Q7t (show 2<6 by decide) R g i k) (roE rfl (roE (Q2s _ _) (roE (Q2y _ _) (roE (Qaj _ _) roN)))))
theorem Qt3 {R:Reg} {g:List (Nat×Nat)} {i:Nat} {k:List UInt8} {C:RCl} {n:Nat} {tm tm':List AV} {H:List AObj} (more:List AObj) (e:H=Q41 R g i k C++more)
  (h1:RenL (fun i=>i) (KD (fun i=>i) (Q41 R g i k C)) H tm tm') (h4:refsLt.refsLts 6 tm'=true):Ren (fun i=>i) n tm H tm' (Q41 R g i k C):=by
 subst e;exact ⟨h1,Qgj 0 _ (fun j o h=>by rw [Lv,Lh (La.1 h).1];exact h),Qka n _,h4,Ql4 R g i k C⟩
def Q52 (all:List (Int×List UInt8×Bool)):Nat->Int->Option (Int×Int)
 | 0,_=>none
 | k+1,n=>if 1≤n then (if n≤65534 then (match Un n 0 all with
  | none=>some (n,n+1)
  | some _=>Q52 all k (n+1)) else some (0,n)) else none
end
end Go.Av
