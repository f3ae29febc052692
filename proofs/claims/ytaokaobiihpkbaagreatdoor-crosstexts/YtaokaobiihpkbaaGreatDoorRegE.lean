/- Part of the proof of CrossTexts: for every input the law returns true; no condition. -/
import Derived.Test.YtaokaobiihpkbaaGreatDoorRegN
import Derived.Test.YtaokaobiihpkbaaGreatDoorAvAbb
set_option linter.all false
namespace Go.Av
noncomputable section
def Jq (c:List UInt8):Nat→Reg→Option (Nat×RCl)
 | _,[]=>none
 | n,(k,C)::r=>if c=k then some (n,C) else Jq c (n+1) r
def Q34 (c:List UInt8):Nat→List (List UInt8×Int)→Option (Nat×Int)
 | _,[]=>none
 | n,(k,v)::r=>if c=k then some (n,v) else Q34 c (n+1) r
def Q4b (x:Int):Nat→List (Int×List UInt8×Bool)→Option (Nat×List UInt8×Bool)
 | _,[]=>none
 | n,(k,v)::r=>if x=k then some (n,v) else Q4b x (n+1) r
section
variable {E:Env Prop} {x:PV} {k:Option (Nat×AV)→Prop} {es:List (PV×AV)} {i:Nat}
theorem Uk (h:Jp x i es=some none) (hk:k none):Q33 E x k i es:=by rw [Q2y,h];exact hk
theorem Qj5 (hk:k none):Q33 E x k i []:=Uk rfl hk
theorem U4 {q:Nat×AV} (h:Jp x i es=some (some q)) (hk:k (some q)):Q33 E x k i es:=by rw [Q2y,h];exact hk
end
section
variable {P:Program} {Gl:Nat→Option (List PV)}
theorem Qa0 {f:Nat} {args:List AV} {H:List AObj} {r:PV} {Q:List AObj→Prop} (h:Qs P Gl f args H (fun v H'=>Frz (fun _=>False) H' v r∧Q H')):Qs P Gl f args H (fun v H'=>v = .p r∧Q H'):=by
 refine ⟨h.1,fun θ w cargs ha hH hG=>(h.2 θ w cargs ha hH hG).mono ?_⟩
 rintro e w' ⟨v,cr,H',θ',rfl,⟨hf,hq⟩,q2,q3,q4⟩
 exact ⟨.p r,cr,H',θ',rfl,⟨rfl,hq⟩,.p _ _ (Q6s q3 (fun c h=>h) (fun a o l h=>h.elim) hf q2),q3,q4⟩
theorem fzT {K:Nat→Prop} {H:List AObj} {vs:List AV} {rs:List PV} (h:FrzL K H vs rs):Frz K H (.tuple vs) (.tuple rs) := .tuple _ _ h.1 h.2
end
theorem apP {β:Type} {l m q:List β} {k:List β→Prop} (e:l++m=q) (h:k q):Qh8 l m k:=by rw [Q07,e];exact h
theorem Qg7 (a b:List UInt8):Wf (.str a) (.str b)=some (decide (a=b)):=by
 show some (a == b)=_
 congr 1
 by_cases h:a=b
 ·rw [Ad h];simp [h]
 rw [Ab h];simpa using h
theorem Qxe (a b:Int):Wf (.int .i64 a) (.int .i64 b)=some (decide (a=b)):=rfl
theorem Q1r {c:List UInt8}:∀ (R:Reg) (g:List (Nat×Nat)) (n:Nat),Jq c n R=none→Jp (.str c) n (gm R g)=some none
 | [],g,n,_=>by simp [gm,Jp]
 | (k,C)::R,[],n,h=>by simp [gm,Jp]
 | (k,C)::R,a::g,n,h=>by
  simp only [Jq] at h;split at h
  ·cases h
  rename_i hne
  show (match Wf (.str c) (.str k) with
   | some true=>_
   | some false=>Jp (.str c) (n+1) (gm R g)
   | none=>_)=_
  rw [Qg7,Ab hne];exact Q1r R g (n+1) h
theorem Q4u {c:List UInt8}:∀ (R:Reg) (n i:Nat) (C:RCl),Jq c n R=some (i,C)→n≤i∧R[i - n]? = some (c,C)
 | [],n,i,C,h=>by cases h
 | (k,D)::R,n,i,C,h=>by
  simp only [Jq] at h;split at h
  ·rename_i he;cases h;subst he;exact ⟨Lj _,by simp⟩
  obtain ⟨h1,h2⟩:=Q4u R (n+1) i C h;refine ⟨by omega,?_⟩;rw [show i - n=(i - (n+1))+1 by omega];exact h2
theorem Vo {c:List UInt8} {C:RCl} {x:AV}:∀ (R:Reg) (g:List (Nat×Nat)) (n i:Nat),g.length=R.length→Jq c n R=some (i,C) →
  Jp (.str c) n ((gm R g).set (i - n) (.str c,x))=some (some (i,x))
 | [],g,n,i,_,h=>by cases h
 | (k,D)::R,[],n,i,hg,h=>by simp at hg
 | (k,D)::R,a::g,n,i,hg,h=>by
  simp only [Jq] at h;split at h
  ·rename_i he;cases h;subst he;show Jp (.str c) n (((PV.str c,AV.gptr a.1 a.2)::gm R g).set (n - n) (.str c,x))=_;rw [Cg]
   show (match Wf (.str c) (.str c) with
    | some true=>some (some (n,x))
    | some false=>_
    | none=>_)=_
   rw [Qg7,Ad rfl]
  rename_i hne;have hle:=(Q4u R (n+1) i C h).1;show Jp (.str c) n (((PV.str k,AV.gptr a.1 a.2)::gm R g).set (i - n) (.str c,x))=_;rw [show i - n=(i - (n+1))+1 by omega]
  show (match Wf (.str c) (.str k) with
   | some true=>_
   | some false=>Jp (.str c) (n+1) ((gm R g).set (i - (n+1)) (.str c,x))
   | none=>_)=_
  rw [Qg7,Ab hne];exact Vo R g (n+1) i (by simpa using hg) h
theorem Qr6 {c:List UInt8}:∀ (l:List (List UInt8×Int)) (n:Nat),Jp (.str c) n (Qca l)=some ((Q34 c n l).map fun q=>(q.1,.p (.int .i64 q.2)))
 | [],n=>rfl
 | (k,v)::l,n=>by
  show (match Wf (.str c) (.str k) with
   | some true=>some (some (n,AV.p (.int .i64 v)))
   | some false=>Jp (.str c) (n+1) (Qca l)
   | none=>none)=_
  rw [Qg7];simp only [Q34]
  by_cases h:c=k
  ·rw [Ad h,Af h];rfl
  rw [Ab h,Ae h];exact Qr6 l (n+1)
theorem Qq6 {x:Int}:∀ (l:List (Int×List UInt8×Bool)) (n:Nat),Jp (.int .i64 x) n (Qdf l)=some ((Q4b x n l).map fun q=>(q.1,.agg [.p (.int .i64 x),.p (.str q.2.1),.p (.bool q.2.2)]))
 | [],n=>rfl
 | (k,v)::l,n=>by
  show (match Wf (.int .i64 x) (.int .i64 k) with
   | some true=>some (some (n,AV.agg [.p (.int .i64 k),.p (.str v.1),.p (.bool v.2)]))
   | some false=>Jp (.int .i64 x) (n+1) (Qdf l)
   | none=>none)=_
  rw [Qxe];simp only [Q4b]
  by_cases h:x=k
  ·subst h;rw [Ad rfl,Af rfl];rfl
  rw [Ab h,Ae h];exact Qq6 l (n+1)
theorem Q08 {c:List UInt8} {l:List (List UInt8×Int)} (h:Q34 c 0 l=none):Jp (.str c) 0 (Qca l)=some none:=by rw [Qr6,h];rfl
theorem Q57 {c:List UInt8} {l:List (List UInt8×Int)} {i:Nat} {v:Int} (h:Q34 c 0 l=some (i,v)):Jp (.str c) 0 (Qca l)=some (some (i,.p (.int .i64 v))):=by rw [Qr6,h];rfl
theorem Q0d {x:Int} {l:List (Int×List UInt8×Bool)} (h:Q4b x 0 l=none):Jp (.int .i64 x) 0 (Qdf l)=some none:=by rw [Qq6,h];rfl
theorem Q1q {x:Int} {l:List (Int×List UInt8×Bool)} {i:Nat} {v:List UInt8×Bool} (h:Q4b x 0 l=some (i,v)):Jp (.int .i64 x) 0 (Qdf l)=some (some (i,.agg [.p (.int .i64 x),.p (.str v.1),.p (.bool v.2)])):=by rw [Qq6,h];rfl
theorem Qm8 (n:Nat) (l:List (List UInt8×Int)):J4 n (.map (Qca l))=true:=by
 show (Qca l).all _=true;rw [Lp];intro p hp;obtain ⟨q,_,rfl⟩:=Mz.1 hp;rfl
theorem Qmj (n:Nat) (l:List (Int×List UInt8×Bool)):J4 n (.map (Qdf l))=true:=by
 show (Qdf l).all _=true;rw [Lp];intro p hp;obtain ⟨q,_,rfl⟩:=Mz.1 hp;rfl
theorem Qci (n:Nat):∀ l:List Int,refsLt.refsLts n (Qks l)=true
 | []=>rfl
 | x::l=>Qci n l
theorem Qdr (C:RCl):((Jh C).all (J4 (Jh C).length))=true:=
 roE rfl (roE (Qm8 _ _) (roE (Qmj _ _) (roE (Qci _ _) roN)))
theorem Uv {R:Reg} {g:List (Nat×Nat)} {i:Nat} {k:List UInt8} {C':RCl} {H':List AObj} (more:List AObj) (e:H'=Qha R g i k C'++more):Qeo R g i k C' H':=by
 subst e
 have key:∀ j o,(Jh C')[j]? = some o→(Qha R g i k C'++more)[2+j]? = some (Q7k (fun j=>2+j) o):=fun j o h=>by
  have h2:=Qd5 C' j;rw [h] at h2
  have:(Qha R g i k C')[2+j]? = some (Q7k (fun j=>2+j) o):=by rw [show 2+j=j+2 by omega];exact h2
  rw [Lk (La.1 this).1];exact this
 refine ⟨fun j=>2+j,rfl,rfl,⟨⟨rfl,fun i v u h=>by simp at h⟩,?_,rfl,rfl,Qdr C'⟩,fun j _=>by show 2≤2+j;omega⟩;exact ⟨.inl ⟨_,key 0 _ rfl,.inl rfl⟩,.inl ⟨_,key 1 _ rfl,.inl rfl⟩,.inl ⟨_,key 2 _ rfl,.inl rfl⟩,.inl ⟨_,key 3 _ rfl,.inl rfl⟩,trivial⟩
theorem Qht {R:Reg} {g:List (Nat×Nat)} {k:List UInt8} {ids:List (List UInt8×Int)} {all:List (Int×List UInt8×Bool)} {n:Int} {H':List AObj} (p:Nat) (hp:2≤p)
  (h0:H'[0]? = some (.cells [.map 1])) (h1:H'[1]? = some (.map (gm R g ++ [(.str k,.ptr (p+2) 0)]))) (h2:H'[p]? = some (.map (Qca ids))) (h3:H'[p+1]? = some (.map (Qdf all)))
  (h4:H'[p+2]? = some (.cells [.map p,.map (p+1),.p .nilSlice,.p (.int .i64 n)])):Qml R g k ⟨ids,all,[],n⟩ H':=by
 let ρ:Nat→Nat:=fun j=>if j=0 then p+2 else if j=1 then p else if j=2 then p+1 else H'.length+p+3+j
 refine ⟨ρ,h0,h1,⟨⟨rfl,fun i v u h=>by simp at h⟩,?_,?_,rfl,Qdr _⟩,fun j hj=>?_⟩
 ·refine ⟨.inl ⟨_,h4,.inr ⟨[.map p,.map (p+1),.p .nilSlice,.p (.int .i64 n)],[.map 1,.map 2,.slice 1 3 0 0,.p (.int .i64 n)],[],rfl,rfl,rfl,fun j v u hv hu=>?_⟩⟩,.inl ⟨.map (Qca ids),h2,.inl ?_⟩,.inl ⟨.map (Qdf all),h3,.inl ?_⟩,.inr ⟨rfl,?_⟩,trivial⟩
  ·match j,hv,hu with
   | 0,hv,hu=>cases hv;cases hu;exact .same (.map 1)
   | 1,hv,hu=>cases hv;cases hu;exact .same (.map 2)
   | 2,hv,hu=>cases hv;cases hu;exact .nil 1 3 0
   | 3,hv,hu=>cases hv;cases hu;exact .same (.p _)
   | j+4,hv,hu=>simp at hv
  ·show AObj.map (Qca ids) = .map ((Qca ids).map fun p=>(p.1,Q2j ρ p.2));unfold Qca;rw [Bs];rfl
  ·show AObj.map (Qdf all) = .map ((Qdf all).map fun p=>(p.1,Q2j ρ p.2));unfold Qdf;rw [Bs];rfl
  show _ ≤ ρ 3;simp only [ρ];rw [Ae (by omega),Ae (by omega),Ae (by omega)];omega
 ·have e4:((List.range 4).all fun i=>(!(decide (i<0)) || ρ i == i)&&(List.range 4).all fun j=>i == j || !(((Jh ⟨ids,all,[],n⟩)[i]?).any AObj.live) || !(((Jh ⟨ids,all,[],n⟩)[j]?).any AObj.live) || ρ i != ρ j)=true:=by
   rw [Lp];intro i hi;rw [Lb];refine ⟨by simp,?_⟩;rw [Lp];intro j hj;rw [Bu] at hi hj
   by_cases hij:i=j
   ·simp [hij]
   have : ρ i ≠ ρ j:=by
    simp only [ρ]
    split<;>split<;>(repeat' split)<;>omega
   simp [this]
  exact e4
 simp only [ρ]
 repeat' split
 all_goals omega
theorem Qpv {R:Reg} {g:List (Nat×Nat)} {k:List UInt8} {ids:List (List UInt8×Int)} {all:List (Int×List UInt8×Bool)} {n:Int} {H':List AObj} (more:List AObj)
  (e:H' = .cells [.map 1] :: .map (gm R g ++ [(.str k,.ptr 4 0)]) :: .map (Qca ids) :: .map (Qdf all) :: .cells [.map 2,.map 3,.p .nilSlice,.p (.int .i64 n)]::more):Qml R g k ⟨ids,all,[],n⟩ H':=by
 subst e;exact Qht 2 (Lj _) rfl rfl rfl rfl rfl
section
variable {P:Program} {Gl:Nat→Option (List PV)}
theorem Qfv {f:Nat} {args:List AV} {H:List AObj} {Q:AV→List AObj→Prop} (h:Qs P Gl f args H Q):Qob P f=true:=h.1
theorem Z06 {f:Nat} {args:List PV} {r:PV} {R:Reg} {i:Nat} {k:List UInt8} {C C':RCl} (hr:Je r=true) (hi:Jq k 0 R=some (i,C))
  (h:∀ g:List (Nat×Nat),g.length=R.length→Qs P Gl f (.ptr 0 0::args.map .p) (Qha R g i k C) (fun v H'=>Frz (fun _=>False) H' v r∧Qeo R g i k C' H')):Q3x P Gl f R args r (R.set i (k,C')):=
 Qsy (Qfv (h (List.replicate R.length (0,0)) (by simp))) hr (Q4u R 0 i C hi).2 fun g hg=>Qa0 (h g hg)
theorem Q2c {f:Nat} {args:List PV} {r:PV} {R:Reg} {i:Nat} {k:List UInt8} {C:RCl} (hr:Je r=true) (hi:Jq k 0 R=some (i,C))
  (h:∀ g:List (Nat×Nat),g.length=R.length→Qs P Gl f (.ptr 0 0::args.map .p) (Qha R g i k C) (fun v H'=>Frz (fun _=>False) H' v r∧Qeo R g i k C H')):Q3x P Gl f R args r R:=by
 have:=Z06 hr hi h;have e:=(Q4u R 0 i C hi).2;rw [Nat.sub_zero] at e;obtain ⟨hl,he⟩:=La.1 e
 rwa [← he,List.set_getElem_self] at this
theorem Z7d {f:Nat} {args:List PV} {r:PV} {R:Reg} {k:List UInt8} {C':RCl} (hr:Je r=true)
  (h:∀ g:List (Nat×Nat),g.length=R.length→Qs P Gl f (.ptr 0 0::args.map .p) (Q1k R g) (fun v H'=>Frz (fun _=>False) H' v r∧Qml R g k C' H')):Q3x P Gl f R args r (R ++ [(k,C')]):=
 Qt0 (Qfv (h (List.replicate R.length (0,0)) (by simp))) hr fun g hg=>Qa0 (h g hg)
theorem Qz3 {f:Nat} {args:List PV} {r:PV} {R:Reg} (hr:Je r=true)
  (h:∀ g:List (Nat×Nat),g.length=R.length→Qs P Gl f (.ptr 0 0::args.map .p) (Q1k R g) (fun v H'=>Frz (fun _=>False) H' v r∧H'[0]? = some (.cells [.map 1])∧H'[1]? = some (.map (gm R g)))):Q3x P Gl f R args r R:=
 Qsv (Qfv (h (List.replicate R.length (0,0)) (by simp))) hr fun g hg=>Qa0 (h g hg)
theorem Z14 {f:Nat} (hc:Qs P Gl f [] [] (fun v H'=>∃ i j,v = .ptr j 0∧H'[j]? = some (.cells [.map i])∧H'[i]? = some (.map [])∧i≠j)):Qm4 P Gl f:=Qq3 hc.1 hc
end
theorem Qp8 (l:List (List UInt8×Int)) (c:List UInt8) (v:Int):Qca l ++ [(.str c,.p (.int .i64 v))]=Qca (l ++ [(c,v)]):=by simp [Qca]
theorem Qpj (l:List (Int×List UInt8×Bool)) (x:Int) (n:List UInt8) (b:Bool):Qdf l ++ [(.int .i64 x,.agg [.p (.int .i64 x),.p (.str n),.p (.bool b)])]=Qdf (l ++ [(x,n,b)]):=by simp [Qdf]
theorem Qwz {n:Nat} (hn:2<n) (R:Reg) (g:List (Nat×Nat)) (i:Nat) (k:List UInt8):J4 n (.map ((gm R g).set i (.str k,.ptr 2 0)))=true:=by
 show ((gm R g).set i _).all _=true;rw [Lp];intro p hp
 rcases Cz hp with h | rfl
 ·obtain ⟨q,_,rfl⟩:=Mz.1 h;rfl
 exact Ad hn
theorem Qpl (R:Reg) (g:List (Nat×Nat)) (i:Nat) (k:List UInt8) (C:RCl):((Qha R g i k C).all (J4 (Qha R g i k C).length))=true:=
 roE rfl (roE (Qwz (show 2<6 by decide) R g i k) (roE rfl (roE (Qm8 _ _) (roE (Qmj _ _) (roE (Qci _ _) roN)))))
theorem Z0c {R:Reg} {g:List (Nat×Nat)} {i:Nat} {k:List UInt8} {C:RCl} {n:Nat} {tm tm':List AV} {H:List AObj} (more:List AObj) (e:H=Qha R g i k C++more)
  (h1:RenL (fun i=>i) (KD (fun i=>i) (Qha R g i k C)) H tm tm') (h4:refsLt.refsLts 6 tm'=true):Ren (fun i=>i) n tm H tm' (Qha R g i k C):=by
 subst e;exact ⟨h1,Qjy 0 _ (fun j o h=>by rw [Md,Lk (La.1 h).1];exact h),Qqy n _,h4,Qpl R g i k C⟩
def Q7q (all:List (Int×List UInt8×Bool)):Nat→Int→Option (Int×Int)
 | 0,_=>none
 | k+1,n=>if 1≤n then (if n≤65534 then (match Q4b n 0 all with
  | none=>some (n,n+1)
  | some _=>Q7q all k (n+1)) else some (0,n)) else none
end
end Go.Av
