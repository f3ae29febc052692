/- Part of the proof of CrossKeeps: for every input the law returns true; no condition. -/
import Derived.Test.YtaokaobiihpkbaaGreatDoorRegN
import Derived.Test.YtaokaobiihpkbaaGreatDoorAvAbb
set_option linter.all false
namespace Go.Av
noncomputable section
def Gj (c:List UInt8):Nat→Reg→Option (Nat×RCl)
 | _,[]=>none
 | n,(k,C)::r=>if c=k then some (n,C) else Gj c (n+1) r
def Q43 (c:List UInt8):Nat→List (List UInt8×Int)→Option (Nat×Int)
 | _,[]=>none
 | n,(k,v)::r=>if c=k then some (n,v) else Q43 c (n+1) r
def Q4t (x:Int):Nat→List (Int×List UInt8×Bool)→Option (Nat×List UInt8×Bool)
 | _,[]=>none
 | n,(k,v)::r=>if x=k then some (n,v) else Q4t x (n+1) r
section
variable {E:Env Prop} {x:PV} {k:Option (Nat×AV)→Prop} {es:List (PV×AV)} {i:Nat}
theorem J5 (h:Gi x i es=some none) (hk:k none):Q40 E x k i es:=by rw [Q3j,h];exact hk
theorem Qjg (hk:k none):Q40 E x k i []:=J5 rfl hk
theorem Ur {q:Nat×AV} (h:Gi x i es=some (some q)) (hk:k (some q)):Q40 E x k i es:=by rw [Q3j,h];exact hk
end
section
variable {P:Program} {Gl:Nat→Option (List PV)}
theorem Qaz {f:Nat} {args:List AV} {H:List AObj} {r:PV} {Q:List AObj→Prop} (h:Qw P Gl f args H (fun v H'=>Frz (fun _=>False) H' v r∧Q H')):Qw P Gl f args H (fun v H'=>v = .p r∧Q H'):=by
 refine ⟨h.1,fun θ w cargs ha hH hG=>(h.2 θ w cargs ha hH hG).mono ?_⟩
 rintro e w' ⟨v,cr,H',θ',rfl,⟨hf,hq⟩,q2,q3,q4⟩
 exact ⟨.p r,cr,H',θ',rfl,⟨rfl,hq⟩,.p _ _ (Q75 q3 (fun c h=>h) (fun a o l h=>h.elim) hf q2),q3,q4⟩
theorem fzT {K:Nat→Prop} {H:List AObj} {vs:List AV} {rs:List PV} (h:FrzL K H vs rs):Frz K H (.tuple vs) (.tuple rs) := .tuple _ _ h.1 h.2
end
theorem apP {β:Type} {l m q:List β} {k:List β→Prop} (e:l++m=q) (h:k q):Qi2 l m k:=by rw [Q0v,e];exact h
theorem Qha (a b:List UInt8):Wu (.str a) (.str b)=some (decide (a=b)):=by
 show some (a == b)=_
 congr 1
 by_cases h:a=b
 ·rw [Ad h];simp [h]
 rw [Ab h];simpa using h
theorem Qwa (a b:Int):Wu (.int .i64 a) (.int .i64 b)=some (decide (a=b)):=rfl
theorem Q28 {c:List UInt8}:∀ (R:Reg) (g:List (Nat×Nat)) (n:Nat),Gj c n R=none→Gi (.str c) n (gm R g)=some none
 | [],g,n,_=>by simp [gm,Gi]
 | (k,C)::R,[],n,h=>by simp [gm,Gi]
 | (k,C)::R,a::g,n,h=>by
  simp only [Gj] at h;split at h
  ·cases h
  rename_i hne
  show (match Wu (.str c) (.str k) with
   | some true=>_
   | some false=>Gi (.str c) (n+1) (gm R g)
   | none=>_)=_
  rw [Qha,Ab hne];exact Q28 R g (n+1) h
theorem Q5d {c:List UInt8}:∀ (R:Reg) (n i:Nat) (C:RCl),Gj c n R=some (i,C)→n≤i∧R[i - n]? = some (c,C)
 | [],n,i,C,h=>by cases h
 | (k,D)::R,n,i,C,h=>by
  simp only [Gj] at h;split at h
  ·rename_i he;cases h;subst he;exact ⟨Li _,by simp⟩
  obtain ⟨h1,h2⟩:=Q5d R (n+1) i C h;refine ⟨by omega,?_⟩;rw [show i - n=(i - (n+1))+1 by omega];exact h2
theorem Ua {c:List UInt8} {C:RCl} {x:AV}:∀ (R:Reg) (g:List (Nat×Nat)) (n i:Nat),g.length=R.length→Gj c n R=some (i,C) →
  Gi (.str c) n ((gm R g).set (i - n) (.str c,x))=some (some (i,x))
 | [],g,n,i,_,h=>by cases h
 | (k,D)::R,[],n,i,hg,h=>by simp at hg
 | (k,D)::R,a::g,n,i,hg,h=>by
  simp only [Gj] at h;split at h
  ·rename_i he;cases h;subst he;show Gi (.str c) n (((PV.str c,AV.gptr a.1 a.2)::gm R g).set (n - n) (.str c,x))=_;rw [Cj]
   show (match Wu (.str c) (.str c) with
    | some true=>some (some (n,x))
    | some false=>_
    | none=>_)=_
   rw [Qha,Ad rfl]
  rename_i hne;have hle:=(Q5d R (n+1) i C h).1;show Gi (.str c) n (((PV.str k,AV.gptr a.1 a.2)::gm R g).set (i - n) (.str c,x))=_;rw [show i - n=(i - (n+1))+1 by omega]
  show (match Wu (.str c) (.str k) with
   | some true=>_
   | some false=>Gi (.str c) (n+1) ((gm R g).set (i - (n+1)) (.str c,x))
   | none=>_)=_
  rw [Qha,Ab hne];exact Ua R g (n+1) i (by simpa using hg) h
theorem Qs5 {c:List UInt8}:∀ (l:List (List UInt8×Int)) (n:Nat),Gi (.str c) n (Qd8 l)=some ((Q43 c n l).map fun q=>(q.1,.p (.int .i64 q.2)))
 | [],n=>rfl
 | (k,v)::l,n=>by
  show (match Wu (.str c) (.str k) with
   | some true=>some (some (n,AV.p (.int .i64 v)))
   | some false=>Gi (.str c) (n+1) (Qd8 l)
   | none=>none)=_
  rw [Qha];simp only [Q43]
  by_cases h:c=k
  ·rw [Ad h,Af h];rfl
  rw [Ab h,Ae h];exact Qs5 l (n+1)
theorem Qqj {x:Int}:∀ (l:List (Int×List UInt8×Bool)) (n:Nat),Gi (.int .i64 x) n (Qdq l)=some ((Q4t x n l).map fun q=>(q.1,.agg [.p (.int .i64 x),.p (.str q.2.1),.p (.bool q.2.2)]))
 | [],n=>rfl
 | (k,v)::l,n=>by
  show (match Wu (.int .i64 x) (.int .i64 k) with
   | some true=>some (some (n,AV.agg [.p (.int .i64 k),.p (.str v.1),.p (.bool v.2)]))
   | some false=>Gi (.int .i64 x) (n+1) (Qdq l)
   | none=>none)=_
  rw [Qwa];simp only [Q4t]
  by_cases h:x=k
  ·subst h;rw [Ad rfl,Af rfl];rfl
  rw [Ab h,Ae h];exact Qqj l (n+1)
theorem Q11 {c:List UInt8} {l:List (List UInt8×Int)} (h:Q43 c 0 l=none):Gi (.str c) 0 (Qd8 l)=some none:=by rw [Qs5,h];rfl
theorem Q64 {c:List UInt8} {l:List (List UInt8×Int)} {i:Nat} {v:Int} (h:Q43 c 0 l=some (i,v)):Gi (.str c) 0 (Qd8 l)=some (some (i,.p (.int .i64 v))):=by rw [Qs5,h];rfl
theorem Q0y {x:Int} {l:List (Int×List UInt8×Bool)} (h:Q4t x 0 l=none):Gi (.int .i64 x) 0 (Qdq l)=some none:=by rw [Qqj,h];rfl
theorem Q26 {x:Int} {l:List (Int×List UInt8×Bool)} {i:Nat} {v:List UInt8×Bool} (h:Q4t x 0 l=some (i,v)):Gi (.int .i64 x) 0 (Qdq l)=some (some (i,.agg [.p (.int .i64 x),.p (.str v.1),.p (.bool v.2)])):=by rw [Qqj,h];rfl
theorem Qm7 (n:Nat) (l:List (List UInt8×Int)):Jy n (.map (Qd8 l))=true:=by
 show (Qd8 l).all _=true;rw [Lp];intro p hp;obtain ⟨q,_,rfl⟩:=Nb.1 hp;rfl
theorem Qmd (n:Nat) (l:List (Int×List UInt8×Bool)):Jy n (.map (Qdq l))=true:=by
 show (Qdq l).all _=true;rw [Lp];intro p hp;obtain ⟨q,_,rfl⟩:=Nb.1 hp;rfl
theorem Qeg (n:Nat):∀ l:List Int,refsLt.refsLts n (Qko l)=true
 | []=>rfl
 | x::l=>Qeg n l
theorem Qes (C:RCl):((G6 C).all (Jy (G6 C).length))=true:=
 roE rfl (roE (Qm7 _ _) (roE (Qmd _ _) (roE (Qeg _ _) roN)))
theorem Jc {R:Reg} {g:List (Nat×Nat)} {i:Nat} {k:List UInt8} {C':RCl} {H':List AObj} (more:List AObj) (e:H'=Qi0 R g i k C'++more):Qg1 R g i k C' H':=by
 subst e
 have key:∀ j o,(G6 C')[j]? = some o→(Qi0 R g i k C'++more)[2+j]? = some (Q8h (fun j=>2+j) o):=fun j o h=>by
  have h2:=Qdv C' j;rw [h] at h2
  have:(Qi0 R g i k C')[2+j]? = some (Q8h (fun j=>2+j) o):=by rw [show 2+j=j+2 by omega];exact h2
  rw [Lk (La.1 this).1];exact this
 refine ⟨fun j=>2+j,rfl,rfl,⟨⟨rfl,fun i v u h=>by simp at h⟩,?_,rfl,rfl,Qes C'⟩,fun j _=>by show 2≤2+j;omega⟩;exact ⟨.inl ⟨_,key 0 _ rfl,.inl rfl⟩,.inl ⟨_,key 1 _ rfl,.inl rfl⟩,.inl ⟨_,key 2 _ rfl,.inl rfl⟩,.inl ⟨_,key 3 _ rfl,.inl rfl⟩,trivial⟩
theorem Qis {R:Reg} {g:List (Nat×Nat)} {k:List UInt8} {ids:List (List UInt8×Int)} {all:List (Int×List UInt8×Bool)} {n:Int} {H':List AObj} (p:Nat) (hp:2≤p)
  (h0:H'[0]? = some (.cells [.map 1])) (h1:H'[1]? = some (.map (gm R g ++ [(.str k,.ptr (p+2) 0)]))) (h2:H'[p]? = some (.map (Qd8 ids))) (h3:H'[p+1]? = some (.map (Qdq all)))
  (h4:H'[p+2]? = some (.cells [.map p,.map (p+1),.p .nilSlice,.p (.int .i64 n)])):Qn9 R g k ⟨ids,all,[],n⟩ H':=by
 let ρ:Nat→Nat:=fun j=>if j=0 then p+2 else if j=1 then p else if j=2 then p+1 else H'.length+p+3+j
 refine ⟨ρ,h0,h1,⟨⟨rfl,fun i v u h=>by simp at h⟩,?_,?_,rfl,Qes _⟩,fun j hj=>?_⟩
 ·refine ⟨.inl ⟨_,h4,.inr ⟨[.map p,.map (p+1),.p .nilSlice,.p (.int .i64 n)],[.map 1,.map 2,.slice 1 3 0 0,.p (.int .i64 n)],[],rfl,rfl,rfl,fun j v u hv hu=>?_⟩⟩,.inl ⟨.map (Qd8 ids),h2,.inl ?_⟩,.inl ⟨.map (Qdq all),h3,.inl ?_⟩,.inr ⟨rfl,?_⟩,trivial⟩
  ·match j,hv,hu with
   | 0,hv,hu=>cases hv;cases hu;exact .same (.map 1)
   | 1,hv,hu=>cases hv;cases hu;exact .same (.map 2)
   | 2,hv,hu=>cases hv;cases hu;exact .nil 1 3 0
   | 3,hv,hu=>cases hv;cases hu;exact .same (.p _)
   | j+4,hv,hu=>simp at hv
  ·show AObj.map (Qd8 ids) = .map ((Qd8 ids).map fun p=>(p.1,Q32 ρ p.2));unfold Qd8;rw [Bv];rfl
  ·show AObj.map (Qdq all) = .map ((Qdq all).map fun p=>(p.1,Q32 ρ p.2));unfold Qdq;rw [Bv];rfl
  show _ ≤ ρ 3;simp only [ρ];rw [Ae (by omega),Ae (by omega),Ae (by omega)];omega
 ·have e4:((List.range 4).all fun i=>(!(decide (i<0)) || ρ i == i)&&(List.range 4).all fun j=>i == j || !(((G6 ⟨ids,all,[],n⟩)[i]?).any AObj.live) || !(((G6 ⟨ids,all,[],n⟩)[j]?).any AObj.live) || ρ i != ρ j)=true:=by
   rw [Lp];intro i hi;rw [Lb];refine ⟨by simp,?_⟩;rw [Lp];intro j hj;rw [By] at hi hj
   by_cases hij:i=j
   ·simp [hij]
   have : ρ i ≠ ρ j:=by
    simp only [ρ]
    split<;>split<;>(repeat' split)<;>omega
   simp [this]
  exact e4
 simp only [ρ]
 repeat' split
 all_goals omega
theorem Qsl {R:Reg} {g:List (Nat×Nat)} {k:List UInt8} {ids:List (List UInt8×Int)} {all:List (Int×List UInt8×Bool)} {n:Int} {H':List AObj} (more:List AObj)
  (e:H' = .cells [.map 1] :: .map (gm R g ++ [(.str k,.ptr 4 0)]) :: .map (Qd8 ids) :: .map (Qdq all) :: .cells [.map 2,.map 3,.p .nilSlice,.p (.int .i64 n)]::more):Qn9 R g k ⟨ids,all,[],n⟩ H':=by
 subst e;exact Qis 2 (Li _) rfl rfl rfl rfl rfl
section
variable {P:Program} {Gl:Nat→Option (List PV)}
theorem Qhr {f:Nat} {args:List AV} {H:List AObj} {Q:AV→List AObj→Prop} (h:Qw P Gl f args H Q):Qpc P f=true:=h.1
theorem Z1n {f:Nat} {args:List PV} {r:PV} {R:Reg} {i:Nat} {k:List UInt8} {C C':RCl} (hr:G0 r=true) (hi:Gj k 0 R=some (i,C))
  (h:∀ g:List (Nat×Nat),g.length=R.length→Qw P Gl f (.ptr 0 0::args.map .p) (Qi0 R g i k C) (fun v H'=>Frz (fun _=>False) H' v r∧Qg1 R g i k C' H')):Q4p P Gl f R args r (R.set i (k,C')):=
 Qu0 (Qhr (h (List.replicate R.length (0,0)) (by simp))) hr (Q5d R 0 i C hi).2 fun g hg=>Qaz (h g hg)
theorem Q2o {f:Nat} {args:List PV} {r:PV} {R:Reg} {i:Nat} {k:List UInt8} {C:RCl} (hr:G0 r=true) (hi:Gj k 0 R=some (i,C))
  (h:∀ g:List (Nat×Nat),g.length=R.length→Qw P Gl f (.ptr 0 0::args.map .p) (Qi0 R g i k C) (fun v H'=>Frz (fun _=>False) H' v r∧Qg1 R g i k C H')):Q4p P Gl f R args r R:=by
 have:=Z1n hr hi h;have e:=(Q5d R 0 i C hi).2;rw [Nat.sub_zero] at e;obtain ⟨hl,he⟩:=La.1 e
 rwa [← he,List.set_getElem_self] at this
theorem Z7w {f:Nat} {args:List PV} {r:PV} {R:Reg} {k:List UInt8} {C':RCl} (hr:G0 r=true)
  (h:∀ g:List (Nat×Nat),g.length=R.length→Qw P Gl f (.ptr 0 0::args.map .p) (Q2h R g) (fun v H'=>Frz (fun _=>False) H' v r∧Qn9 R g k C' H')):Q4p P Gl f R args r (R ++ [(k,C')]):=
 Qtv (Qhr (h (List.replicate R.length (0,0)) (by simp))) hr fun g hg=>Qaz (h g hg)
theorem Qzx {f:Nat} {args:List PV} {r:PV} {R:Reg} (hr:G0 r=true)
  (h:∀ g:List (Nat×Nat),g.length=R.length→Qw P Gl f (.ptr 0 0::args.map .p) (Q2h R g) (fun v H'=>Frz (fun _=>False) H' v r∧H'[0]? = some (.cells [.map 1])∧H'[1]? = some (.map (gm R g)))):Q4p P Gl f R args r R:=
 Quu (Qhr (h (List.replicate R.length (0,0)) (by simp))) hr fun g hg=>Qaz (h g hg)
theorem Z1w {f:Nat} (hc:Qw P Gl f [] [] (fun v H'=>∃ i j,v = .ptr j 0∧H'[j]? = some (.cells [.map i])∧H'[i]? = some (.map [])∧i≠j)):Qno P Gl f:=Qrn hc.1 hc
end
theorem Qrq (l:List (List UInt8×Int)) (c:List UInt8) (v:Int):Qd8 l ++ [(.str c,.p (.int .i64 v))]=Qd8 (l ++ [(c,v)]):=by simp [Qd8]
theorem Qq7 (l:List (Int×List UInt8×Bool)) (x:Int) (n:List UInt8) (b:Bool):Qdq l ++ [(.int .i64 x,.agg [.p (.int .i64 x),.p (.str n),.p (.bool b)])]=Qdq (l ++ [(x,n,b)]):=by simp [Qdq]
theorem Qwk {n:Nat} (hn:2<n) (R:Reg) (g:List (Nat×Nat)) (i:Nat) (k:List UInt8):Jy n (.map ((gm R g).set i (.str k,.ptr 2 0)))=true:=by
 show ((gm R g).set i _).all _=true;rw [Lp];intro p hp
 rcases Db hp with h | rfl
 ·obtain ⟨q,_,rfl⟩:=Nb.1 h;rfl
 exact Ad hn
theorem Qq5 (R:Reg) (g:List (Nat×Nat)) (i:Nat) (k:List UInt8) (C:RCl):((Qi0 R g i k C).all (Jy (Qi0 R g i k C).length))=true:=
 roE rfl (roE (Qwk (show 2<6 by decide) R g i k) (roE rfl (roE (Qm7 _ _) (roE (Qmd _ _) (roE (Qeg _ _) roN)))))
theorem Z1d {R:Reg} {g:List (Nat×Nat)} {i:Nat} {k:List UInt8} {C:RCl} {n:Nat} {tm tm':List AV} {H:List AObj} (more:List AObj) (e:H=Qi0 R g i k C++more)
  (h1:RenL (fun i=>i) (KD (fun i=>i) (Qi0 R g i k C)) H tm tm') (h4:refsLt.refsLts 6 tm'=true):Ren (fun i=>i) n tm H tm' (Qi0 R g i k C):=by
 subst e;exact ⟨h1,Ql6 0 _ (fun j o h=>by rw [Md,Lk (La.1 h).1];exact h),Qso n _,h4,Qq5 R g i k C⟩
def Q8l (all:List (Int×List UInt8×Bool)):Nat→Int→Option (Int×Int)
 | 0,_=>none
 | k+1,n=>if 1≤n then (if n≤65534 then (match Q4t n 0 all with
  | none=>some (n,n+1)
  | some _=>Q8l all k (n+1)) else some (0,n)) else none
end
end Go.Av
