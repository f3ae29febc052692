/- Part of FromsnBack: the law returns true; no condition. -/
import Derived.Test.YthbmcbacbhfnmaaGreatDoorTpTopB
import Derived.Test.YthbmcbacbhfnmaaGreatDoorAvSelf
import Derived.Test.YthbmcbacbhfnmaaGreatDoorAvDrawt
section
set_option linter.all false
namespace Go.Av
noncomputable section
set_option maxHeartbeats 4000000
def Vk (c:List UInt8):Nat->Reg->Option (Nat×RCl)
 | _,[]=>none
 | n,(k,C)::r=>if c=k then some (n,C) else Vk c (n+1) r
def Q8g (c:List UInt8):Nat->List (List UInt8×Int)->Option (Nat×Int)
 | _,[]=>none
 | n,(k,v)::r=>if c=k then some (n,v) else Q8g c (n+1) r
def Q50 (x:Int):Nat->List (Int×List UInt8×Bool)->Option (Nat×List UInt8×Bool)
 | _,[]=>none
 | n,(k,v)::r=>if x=k then some (n,v) else Q50 x (n+1) r
section
variable {E:Env Prop} {x:PV} {k:Option (Nat×AV)->Prop} {es:List (PV×AV)} {i:Nat}
def Gp (h:Q43 x i es=some none) (hk:k none):Q5j E x k i es:=by simp_all [Q79]
def Qp3 (hk:k none):Q5j E x k i []:=Gp rfl hk
def Je {q:Nat×AV} (h:Q43 x i es=some (some q)) (hk:k (some q)):Q5j E x k i es:=by simp_all [Q79]
end
section
variable {P:Program} {Gl:Nat->Option (List PV)}
def Qf6 {f:Nat} {args:List AV} {H:List AObj} {r:PV} {Q:List AObj->Prop} (h:Qq P Gl f args H (fun v H'=>Frz (fun _=>False) H' v r∧Q H')):Qq P Gl f args H (fun v H'=>v = .p r∧Q H'):=by
 refine ⟨h.1,fun θ w cargs ha hH hG=>(h.2 θ w cargs ha hH hG).mono ?_⟩
 rintro e w' ⟨v,cr,H',θ',rfl,⟨hf,hq⟩,q2,q3,q4⟩
 exact ⟨.p r,cr,H',θ',rfl,⟨rfl,hq⟩,.p _ _ (Q6o q3 (fun c h=>h) (fun a o l h=>h.elim) hf q2),q3,q4⟩
def fzT {K:Nat->Prop} {H:List AObj} {vs:List AV} {rs:List PV} (h:FrzL K H vs rs):Frz K H (.tuple vs) (.tuple rs) := .tuple _ _ h.1 h.2
end
def apP {β:Type} {l m q:List β} {k:List β->Prop} (e:l++m=q) (h:k q):Qje l m k:=by simp_all [Q40]
def Qmq (a b:List UInt8):Jx (.str a) (.str b)=some (decide (a=b)):=by
 show some (a == b)=_
 grind
def Z65 (a b:Int):Jx (.int .i64 a) (.int .i64 b)=some (decide (a=b)):=rfl
def Q36 {c:List UInt8}:∀ (R:Reg) (g:List (Nat×Nat)) (n:Nat),Vk c n R=none->Q43 (.str c) n (gm R g)=some none
 | [],g,n,_=>by rfl
 | (k,C)::R,[],n,h=>by rfl
 | (k,C)::R,a::g,n,h=>by
  simp only [Vk] at h;split at h
  ·cases h
  rename_i hne
  show (match Jx (.str c) (.str k) with
   | some true=>_
   | some false=>Q43 (.str c) (n+1) (gm R g)
   | none=>_)=_
  rw [Qmq,Ab hne];exact Q36 R g (n+1) h
def Q6c {c:List UInt8}:∀ (R:Reg) (n i:Nat) (C:RCl),Vk c n R=some (i,C)->n≤i∧R[i - n]? = some (c,C)
 | [],n,i,C,h=>by cases h
 | (k,D)::R,n,i,C,h=>by
  simp only [Vk] at h;split at h
  ·simp_all
  obtain ⟨h1,h2⟩:=Q6c R (n+1) i C h<;>grind
def Ur {c:List UInt8} {C:RCl} {x:AV}:∀ (R:Reg) (g:List (Nat×Nat)) (n i:Nat),g.length=R.length->Vk c n R=some (i,C) ->
  Q43 (.str c) n ((gm R g).set (i - n) (.str c,x))=some (some (i,x))
 | [],g,n,i,_,h=>by cases h
 | (k,D)::R,[],n,i,hg,h=>by simp_all
 | (k,D)::R,a::g,n,i,hg,h=>by
  simp only [Vk] at h;split at h
  ·simp_all [Q43,gm,Qmq]
  rename_i hne;have hle:=(Q6c R (n+1) i C h).1;show Q43 (.str c) n (((PV.str k,AV.gptr a.1 a.2)::gm R g).set (i - n) (.str c,x))=_;rw [show i - n=(i - (n+1))+1 by omega]
  show (match Jx (.str c) (.str k) with
   | some true=>_
   | some false=>Q43 (.str c) (n+1) ((gm R g).set (i - (n+1)) (.str c,x))
   | none=>_)=_
  rw [Qmq,Ab hne];exact Ur R g (n+1) i (by simp_all) h
def Qz9 {c:List UInt8}:∀ (l:List (List UInt8×Int)) (n:Nat),Q43 (.str c) n (Qio l)=some ((Q8g c n l).map fun q=>(q.1,.p (.int .i64 q.2)))
 | [],n=>rfl
 | (k,v)::l,n=>by
  show (match Jx (.str c) (.str k) with
   | some true=>some (some (n,AV.p (.int .i64 v)))
   | some false=>Q43 (.str c) (n+1) (Qio l)
   | none=>none)=_
  rw [Qmq];simp only [Q8g]
  by_cases h:c=k
  ·simp_all
  rw [Ab h,Ae h];exact Qz9 l (n+1)
def Qwy {x:Int}:∀ (l:List (Int×List UInt8×Bool)) (n:Nat),Q43 (.int .i64 x) n (Qdw l)=some ((Q50 x n l).map fun q=>(q.1,.agg [.p (.int .i64 x),.p (.str q.2.1),.p (.bool q.2.2)]))
 | [],n=>rfl
 | (k,v)::l,n=>by
  show (match Jx (.int .i64 x) (.int .i64 k) with
   | some true=>some (some (n,AV.agg [.p (.int .i64 k),.p (.str v.1),.p (.bool v.2)]))
   | some false=>Q43 (.int .i64 x) (n+1) (Qdw l)
   | none=>none)=_
  rw [Z65];simp only [Q50]
  by_cases h:x=k
  ·simp_all
  rw [Ab h,Ae h];exact Qwy l (n+1)
def Q46 {c:List UInt8} {l:List (List UInt8×Int)} (h:Q8g c 0 l=none):Q43 (.str c) 0 (Qio l)=some none:=by simp_all [Qz9]
def Q9v {c:List UInt8} {l:List (List UInt8×Int)} {i:Nat} {v:Int} (h:Q8g c 0 l=some (i,v)):Q43 (.str c) 0 (Qio l)=some (some (i,.p (.int .i64 v))):=by simp_all [Qz9]
def Q2r {x:Int} {l:List (Int×List UInt8×Bool)} (h:Q50 x 0 l=none):Q43 (.int .i64 x) 0 (Qdw l)=some none:=by simp_all [Qwy]
def Q2w {x:Int} {l:List (Int×List UInt8×Bool)} {i:Nat} {v:List UInt8×Bool} (h:Q50 x 0 l=some (i,v)):Q43 (.int .i64 x) 0 (Qdw l)=some (some (i,.agg [.p (.int .i64 x),.p (.str v.1),.p (.bool v.2)])):=by simp_all [Qwy]
def Qsc (n:Nat) (l:List (List UInt8×Int)):Q1s n (.map (Qio l))=true:=by
 show (Qio l).all _=true;rw [Ln];intro p hp;obtain ⟨q,_,rfl⟩:=Md.1 hp;rfl
def Qtt (n:Nat) (l:List (Int×List UInt8×Bool)):Q1s n (.map (Qdw l))=true:=by
 show (Qdw l).all _=true;rw [Ln];intro p hp;obtain ⟨q,_,rfl⟩:=Md.1 hp;rfl
def Qh6 (n:Nat):∀ l:List Int,refsLt.refsLts n (Qrb l)=true
 | []=>rfl
 | x::l=>Qh6 n l
def Qi4 (C:RCl):((Q2j C).all (Q1s (Q2j C).length))=true:=
 roE rfl (roE (Qsc _ _) (roE (Qtt _ _) (roE (Qh6 _ _) roN)))
def Gf {R:Reg} {g:List (Nat×Nat)} {i:Nat} {k:List UInt8} {C':RCl} {H':List AObj} (more:List AObj) (e:H'=Qed R g i k C'++more):Qkd R g i k C' H':=by
 subst e
 have key:∀ j o,(Q2j C')[j]? = some o->(Qed R g i k C'++more)[2+j]? = some (Qcd (fun j=>2+j) o):=fun j o h=>by
  grind [Qgx,Qed,List.getElem?_append_left]
 refine ⟨fun j=>2+j,rfl,rfl,⟨⟨rfl,fun i v u h=>by simp⟩,?_,rfl,rfl,Qi4 C'⟩,fun j _=>by simp⟩;exact ⟨.inl ⟨_,key 0 _ rfl,.inl rfl⟩,.inl ⟨_,key 1 _ rfl,.inl rfl⟩,.inl ⟨_,key 2 _ rfl,.inl rfl⟩,.inl ⟨_,key 3 _ rfl,.inl rfl⟩,trivial⟩
def Qoq {R:Reg} {g:List (Nat×Nat)} {k:List UInt8} {ids:List (List UInt8×Int)} {all:List (Int×List UInt8×Bool)} {n:Int} {H':List AObj} (p:Nat) (hp:2≤p)
  (h0:H'[0]? = some (.cells [.map 1])) (h1:H'[1]? = some (.map (gm R g ++ [(.str k,.ptr (p+2) 0)]))) (h2:H'[p]? = some (.map (Qio ids))) (h3:H'[p+1]? = some (.map (Qdw all)))
  (h4:H'[p+2]? = some (.cells [.map p,.map (p+1),.p .nilSlice,.p (.int .i64 n)])):Qrv R g k ⟨ids,all,[],n⟩ H':=by
 let ρ:Nat->Nat:=fun j=>if j=0 then p+2 else if j=1 then p else if j=2 then p+1 else H'.length+p+3+j
 refine ⟨ρ,h0,h1,⟨⟨rfl,fun i v u h=>by simp⟩,?_,?_,rfl,Qi4 _⟩,fun j hj=>?_⟩
 ·refine ⟨.inl ⟨_,h4,.inr ⟨[.map p,.map (p+1),.p .nilSlice,.p (.int .i64 n)],[.map 1,.map 2,.slice 1 3 0 0,.p (.int .i64 n)],[],rfl,rfl,rfl,fun j v u hv hu=>?_⟩⟩,.inl ⟨.map (Qio ids),h2,.inl ?_⟩,.inl ⟨.map (Qdw all),h3,.inl ?_⟩,.inr ⟨rfl,?_⟩,trivial⟩
  ·match j,hv,hu with
   | 0,hv,hu=>cases hv;cases hu;exact .same (.map 1)
   | 1,hv,hu=>cases hv;cases hu;exact .same (.map 2)
   | 2,hv,hu=>cases hv;cases hu;exact .nil 1 3 0
   | 3,hv,hu=>cases hv;cases hu;exact .same (.p _)
   | j+4,hv,hu=>simp_all
  ·show AObj.map (Qio ids) = .map ((Qio ids).map fun p=>(p.1,Q6m ρ p.2));unfold Qio;rw [Mr];rfl
  ·show AObj.map (Qdw all) = .map ((Qdw all).map fun p=>(p.1,Q6m ρ p.2));unfold Qdw;rw [Mr];rfl
  grind
 ·have e4:((List.range 4).all fun i=>(!(decide (i<0)) || ρ i == i)&&(List.range 4).all fun j=>i == j || !(((Q2j ⟨ids,all,[],n⟩)[i]?).any AObj.live) || !(((Q2j ⟨ids,all,[],n⟩)[j]?).any AObj.live) || ρ i != ρ j)=true:=by grind
  exact e4
 grind
def Qxt {R:Reg} {g:List (Nat×Nat)} {k:List UInt8} {ids:List (List UInt8×Int)} {all:List (Int×List UInt8×Bool)} {n:Int} {H':List AObj} (more:List AObj)
  (e:H' = .cells [.map 1] :: .map (gm R g ++ [(.str k,.ptr 4 0)]) :: .map (Qio ids) :: .map (Qdw all) :: .cells [.map 2,.map 3,.p .nilSlice,.p (.int .i64 n)]::more):Qrv R g k ⟨ids,all,[],n⟩ H':=by
 subst e;exact Qoq 2 (Lh _) rfl rfl rfl rfl rfl
section
variable {P:Program} {Gl:Nat->Option (List PV)}
def Qmm {f:Nat} {args:List AV} {H:List AObj} {Q:AV->List AObj->Prop} (h:Qq P Gl f args H Q):Qm8 P f=true:=h.1
def Zb9 {f:Nat} {args:List PV} {r:PV} {R:Reg} {i:Nat} {k:List UInt8} {C C':RCl} (hr:Q29 r=true) (hi:Vk k 0 R=some (i,C))
  (h:∀ g:List (Nat×Nat),g.length=R.length->Qq P Gl f (.ptr 0 0::args.map .p) (Qed R g i k C) (fun v H'=>Frz (fun _=>False) H' v r∧Qkd R g i k C' H')):Q6f P Gl f R args r (R.set i (k,C')):=
 Z22 (Qmm (h (List.replicate R.length (0,0)) (by simp))) hr (Q6c R 0 i C hi).2 fun g hg=>Qf6 (h g hg)
def Q3k {f:Nat} {args:List PV} {r:PV} {R:Reg} {i:Nat} {k:List UInt8} {C:RCl} (hr:Q29 r=true) (hi:Vk k 0 R=some (i,C))
  (h:∀ g:List (Nat×Nat),g.length=R.length->Qq P Gl f (.ptr 0 0::args.map .p) (Qed R g i k C) (fun v H'=>Frz (fun _=>False) H' v r∧Qkd R g i k C H')):Q6f P Gl f R args r R:=by
 have:=Zb9 hr hi h;have e:=(Q6c R 0 i C hi).2
 grind [List.set_getElem_self]
def Zos {f:Nat} {args:List PV} {r:PV} {R:Reg} {k:List UInt8} {C':RCl} (hr:Q29 r=true)
  (h:∀ g:List (Nat×Nat),g.length=R.length->Qq P Gl f (.ptr 0 0::args.map .p) (U8 R g) (fun v H'=>Frz (fun _=>False) H' v r∧Qrv R g k C' H')):Q6f P Gl f R args r (R ++ [(k,C')]):=
 Z11 (Qmm (h (List.replicate R.length (0,0)) (by simp))) hr fun g hg=>Qf6 (h g hg)
def Z80 {f:Nat} {args:List PV} {r:PV} {R:Reg} (hr:Q29 r=true)
  (h:∀ g:List (Nat×Nat),g.length=R.length->Qq P Gl f (.ptr 0 0::args.map .p) (U8 R g) (fun v H'=>Frz (fun _=>False) H' v r∧H'[0]? = some (.cells [.map 1])∧H'[1]? = some (.map (gm R g)))):Q6f P Gl f R args r R:=
 Z1s (Qmm (h (List.replicate R.length (0,0)) (by simp))) hr fun g hg=>Qf6 (h g hg)
def Zcf {f:Nat} (hc:Qq P Gl f [] [] (fun v H'=>∃ i j,v = .ptr j 0∧H'[j]? = some (.cells [.map i])∧H'[i]? = some (.map [])∧i≠j)):Qt5 P Gl f:=Qy0 hc.1 hc
end
def Qww (l:List (List UInt8×Int)) (c:List UInt8) (v:Int):Qio l ++ [(.str c,.p (.int .i64 v))]=Qio (l ++ [(c,v)]):=by simp [Qio]
def Qwc (l:List (Int×List UInt8×Bool)) (x:Int) (n:List UInt8) (b:Bool):Qdw l ++ [(.int .i64 x,.agg [.p (.int .i64 x),.p (.str n),.p (.bool b)])]=Qdw (l ++ [(x,n,b)]):=by simp [Qdw]
def Z71 {n:Nat} (hn:2<n) (R:Reg) (g:List (Nat×Nat)) (i:Nat) (k:List UInt8):Q1s n (.map ((gm R g).set i (.str k,.ptr 2 0)))=true:=by
 show ((gm R g).set i _).all _=true;rw [Ln];intro p hp
 rcases Bd hp with h | rfl
 ·obtain ⟨q,_,rfl⟩:=Md.1 h;rfl
 exact Ad hn
def Qvs (R:Reg) (g:List (Nat×Nat)) (i:Nat) (k:List UInt8) (C:RCl):((Qed R g i k C).all (Q1s (Qed R g i k C).length))=true:=
 roE rfl (roE (Z71 (show 2<6 by decide) R g i k) (roE rfl (roE (Qsc _ _) (roE (Qtt _ _) (roE (Qh6 _ _) roN)))))
def Zbh {R:Reg} {g:List (Nat×Nat)} {i:Nat} {k:List UInt8} {C:RCl} {n:Nat} {tm tm':List AV} {H:List AObj} (more:List AObj) (e:H=Qed R g i k C++more)
  (h1:RenL (fun i=>i) (KD (fun i=>i) (Qed R g i k C)) H tm tm') (h4:refsLt.refsLts 6 tm'=true):Ren (fun i=>i) n tm H tm' (Qed R g i k C):=by
 subst e;exact ⟨h1,Qri 0 _ (fun j o h=>by grind),Qzw n _,h4,Qvs R g i k C⟩
def Q7y (all:List (Int×List UInt8×Bool)):Nat->Int->Option (Int×Int)
 | 0,_=>none
 | k+1,n=>if 1≤n then (if n≤65534 then (match Q50 n 0 all with
  | none=>some (n,n+1)
  | some _=>Q7y all k (n+1)) else some (0,n)) else none
end
end Go.Av
end
section
set_option linter.all false
namespace Go.Av
noncomputable section
set_option maxHeartbeats 4000000
def Qc1 (R:Reg) (c:List UInt8) (id:Int):List UInt8×Int:=match Vk c 0 R with
 | none=>([],11)
 | some (_,C)=>match Q50 id 0 C.all with
  | none=>([],11)
  | some (_,v)=>(v.1,0)
def Qc9 (R:Reg) (c:List UInt8) (id:Int):Bool:=match Vk c 0 R with
 | none=>false
 | some (_,C)=>match Q50 id 0 C.all with
  | none=>false
  | some (_,v)=>v.2
def rID (R:Reg) (c n:List UInt8):Int×Int:=match Vk c 0 R with
 | none=>(0,11)
 | some (_,C)=>match Q8g n 0 C.ids with
  | none=>(0,11)
  | some (_,id)=>(id,0)
def Qoe (C:Option RCl) (n:List UInt8):(Int×Bool×Int)×RCl:=match C with
 | none=>((1,true,0),⟨[(n,1)],[(1,n,false)],[],2⟩)
 | some C=>match Q8g n 0 C.ids with
  | some (_,id)=>((id,false,0),C)
  | none=>match Q7y C.all 65536 C.next with
   | some (id,nx)=>if id=0 then ((0,false,12),⟨C.ids,C.all,[],nx⟩) else ((id,true,0),⟨C.ids ++ [(n,id)],C.all ++ [(id,n,false)],[],nx⟩)
   | none=>((0,false,12),C)
def Qnc (C:Option RCl) (n:List UInt8) (id:Int):Int×RCl:=match C with
 | none=>(0,⟨[(n,id)],[(id,n,true)],[],1⟩)
 | some C=>match Q50 id 0 C.all with
  | some (_,v)=>if v=(n,true) then (0,C) else (16,C)
  | none=>match Q8g n 0 C.ids with
   | some _=>(16,C)
   | none=>(0,⟨C.ids ++ [(n,id)],C.all ++ [(id,n,true)],C.back,C.next⟩)
def Z02 (R:Reg) (c:List UInt8) (C:RCl):Reg:=match Vk c 0 R with
 | none=>R ++ [(c,C)]
 | some (i,_)=>R.set i (c,C)
def Q47 (R:Reg) (c:List UInt8):Option RCl:=(Vk c 0 R).map (·.2)
def Qil (ok:Bool) (R:Reg) (c n:List UInt8):(Int×Bool×Int)×Reg:=if ok then ((Qoe (Q47 R c) n).1,Z02 R c (Qoe (Q47 R c) n).2) else ((0,false,10),R)
def Qjm (ok:Bool) (R:Reg) (c n:List UInt8) (id:Int):Int×Reg:=if ok then (if 1≤id∧id≤65534 then ((Qnc (Q47 R c) n id).1,Z02 R c (Qnc (Q47 R c) n id).2) else (2,R)) else (10,R)
def WC (C:RCl):Prop:=C.back = []∧1≤C.next∧C.next≤65535
def WR (R:Reg):Prop:=∀ q∈R,WC q.2
instance (R:Reg):Decidable (WR R):=by unfold WR WC;infer_instance
def Qbt (all:List (Int×List UInt8×Bool)):∀ (N:Nat) (s:Int),1≤s->s≤65535->65535 - s<N->∃ id nx,Q7y all N s=some (id,nx)∧1≤nx∧nx≤65535∧(id=0∨1≤id)
 | 0,s,_,_,h=>by omega
 | N+1,s,h1,h2,h3=>by
  simp only [Q7y,Af h1]
  by_cases h4:s≤65534
  ·rw [Af h4]
   cases ha:Q50 s 0 all with
   | none=>grind
   | some v=>exact Qbt all N (s+1) (by omega) (by omega) (by omega)
  grind
def Qhq {c:List UInt8} {R:Reg} {i:Nat} {C:RCl} (h:Vk c 0 R=some (i,C)):(c,C)∈R:=Mk (Q6c R 0 i C h).2
theorem Qo5 {c:List UInt8} {R:Reg} {i:Nat} {C:RCl} (h:Vk c 0 R=some (i,C)):R.set i (c,C)=R:=by
 have e:=(Q6c R 0 i C h).2
 grind [List.set_getElem_self]
theorem Qod {c d:List UInt8} {C:RCl}:∀ (R:Reg) (n:Nat),Vk c n R=none->Vk d n (R ++ [(c,C)])=if d=c then some (n+R.length,C) else Vk d n R
 | [],n,_=>by rfl
 | (k,D)::R,n,h=>by
  simp only [Vk] at h;split at h
  ·cases h
  rename_i hk;simp only [Ng,Vk];rw [Qod R (n+1) h]
  grind
def Qo6 {c d:List UInt8} {C D:RCl}:∀ (R:Reg) (n i:Nat),Vk c n R=some (i,D)->Vk d n (R.set (i - n) (c,C))=if d=c then some (i,C) else Vk d n R
 | [],n,i,h=>by cases h
 | (k,E)::R,n,i,h=>by
  simp only [Vk] at h;split at h
  ·simp_all [Vk]
  rename_i hk;have hle:=(Q6c R (n+1) i D h).1;rw [show i - n=(i - (n+1))+1 by omega,List.set_cons_succ];simp only [Vk];rw [Qo6 R (n+1) i h]
  grind
theorem Qsr (R:Reg) (c d:List UInt8) (C:RCl):Q47 (Z02 R c C) d=if d=c then some C else Q47 R d:=by
 unfold Q47 Z02
 cases h:Vk c 0 R with
 | none=>
  grind [Qod]
 | some q=>
  obtain ⟨i,D⟩:=q;show (Vk d 0 (R.set i (c,C))).map _=_;have:=Qo6 (d:=d) (C:=C) R 0 i h
  grind
def Qtk (ok:Bool) (R:Reg) (c n d:List UInt8):Q47 (Qil ok R c n).2 d=if ok=true∧d=c then some (Qoe (Q47 R c) n).2 else Q47 R d:=by
 grind [Qil,Qsr]
def Z1m (ok:Bool) (R:Reg) (c n d:List UInt8) (id:Int):Q47 (Qjm ok R c n id).2 d=if (ok=true∧1≤id∧id≤65534)∧d=c then some (Qnc (Q47 R c) n id).2 else Q47 R d:=by
 grind [Qjm,Qsr]
def Z86 (ok:List UInt8->Bool) (R:Reg) (t:List UInt8×List UInt8×Int):Reg:=if t.2.2=0 then (Qil (ok t.2.1) R t.1 t.2.1).2 else (Qjm (ok t.2.1) R t.1 t.2.1 t.2.2).2
end
end Go.Av
namespace Go.Av
noncomputable section
set_option maxHeartbeats 4000000
def Zcc (a L:Nat):Bool:=Nat.beq (Nat.land a L) a
def Z4s (f:Nat->COper->Prop) (L:Nat):Nat->List COper->Prop
 | _,[]=>True
 | j,c::r=>(match !Nat.testBit L j&&Zcc c.bef L with
  | true=>f j c
  | false=>True)∧Z4s f L (j+1) r
def Qw6 {a L:Nat} (h:∀ b,a.testBit b=true->L.testBit b=true):Zcc a L=true:=by
 unfold Zcc;rw [Be];apply Nat.eq_of_testBit_eq
 simp_all
def Qnw {f:Nat->COper->Prop} {L:Nat}:∀ (cs:List COper) (j:Nat),Z4s f L j cs->∀ (i:Nat) c,cs[i]? = some c->L.testBit (j+i)=false->(∀ b,c.bef.testBit b=true->L.testBit b=true)->f (j+i) c
 | [],j,_,i,c,hc,_,_=>by simp_all
 | d::r,j,h,0,c,hc,hl,hb=>by
  simp at hc;subst hc;have h1:=h.1
  simp_all [Qw6]
 | d::r,j,h,i+1,c,hc,hl,hb=>by
  have:=Qnw r (j+1) h.2 i c (by simp_all) (by grind) hb
  grind
section
variable {P:Program} {Gl:Nat->Option (List PV)}
def Qit (P:Program) (Gl:Nat->Option (List PV)) (k:List AV->List AObj->Prop) (cs:List COper):Nat->Nat->List AV->List AObj->Prop
 | 0,_,tm,H=>k tm H
 | n+1,L,tm,H=>Z4s (fun j c=>Q0e (EP P Gl) (fun tm H=>Qit P Gl k cs n (Nat.lor L (2 ^ j)) tm H) [c] tm H) L 0 cs
theorem Qwi (L j i:Nat):(Nat.lor L (2 ^ j)).testBit i=(L.testBit i||decide (j=i)):=by
 simp_all [Nat.testBit_two_pow]
def Qhd {ops:Array Oper} {all:List COper} (hsz:ops.size=all.length) (hed:EdgeOk ops all)
  (hop:∀ (i:Nat) o c,ops[i]? = some o->all[i]? = some c->o.dst=c.dst∧Qa4 P o.op c.op=true∧Wd ops o.guard c.guard=true)
  {θ0:Th} {H0:List AObj} {w0:World} {k:List AV->List AObj->Prop} (hG0:GlobOK Gl θ0 H0 w0) {Q:Exit->Act->World->Prop}
  (hQ:∀ tm' H' θ' a' w',k tm' H'->TmOk θ' (Qu θ' H') w' tm' a'->Hp θ' H' w'->EvoS θ0 H0 w0 θ' H' w'->Q .normal a' w') :
  ∀ (n L:Nat) tm H,Qit P Gl k all n L tm H->∀ θ a w,EvoS θ0 H0 w0 θ H w->TmOk θ (Qu θ H) w tm a->Hp θ H w ->
  ∀ (fuel:Nat) (listed:Array Bool),listed.size=ops.size->(∀ i,i<ops.size->(listed.getD i false=true↔L.testBit i=true))->(∀ (i:Nat) c b,all[i]? = some c->L.testBit i=true->c.bef.testBit b=true->L.testBit b=true) ->
   listed.toList.count false=n->n≤fuel->wpAny P .any ops Q fuel listed a w
 | 0,L,tm,H,h,θ,a,w,hE,hT,hH,fuel,listed,hls,hli,hcl,hcn,hf=>by
  have hr:Region.ready .any ops listed = []:=by
   cases hrr:Region.ready .any ops listed with
   | nil=>rfl
   | cons j rest=>
    have hj:j∈Region.ready .any ops listed:=by simp_all
    rw [mem_ready] at hj;obtain ⟨h0,o,ho,_⟩:=hj;have hlt:j<ops.size:=(Mh.1 ho).1
    have hlt2:j<listed.size:=by omega
    have hmem:false∈listed.toList:=Mu.2 ⟨j,by simp_all⟩
    grind
  exact dp
 | n+1,L,tm,H,h,θ,a,w,hE,hT,hH,fuel,listed,hls,hli,hcl,hcn,hf=>by
  match fuel,hf with
  | fuel+1,hf=>
  have hG:=hG0.evo hE.toEvo;refine ⟨fun hr=>?_,fun m hj=>?_⟩
  ·exfalso
   -- the first that is not listed is ready
   have hmem:false∈listed.toList:=List.count_pos_iff.1 (by omega);obtain ⟨m0,hm0⟩:=Mu.1 hmem
   have hm0l:m0<listed.size:=by grind
   have ex:∃ m,m<ops.size∧listed.getD m false=false:=⟨m0,by omega,by simp_all⟩
   have least:∀ b,(∃ m,m<b∧m<ops.size∧listed.getD m false=false)->∃ m,m<ops.size∧listed.getD m false=false∧∀ i,i<m->listed.getD i false=true:=by
    intro b
    induction b with
    | zero=>omega
    | succ b ih=>
     rintro ⟨m,hm,h1,h2⟩
     by_cases hs:∃ m,m<b∧m<ops.size∧listed.getD m false=false
     ·grind
     grind
   obtain ⟨m,hm1,hm2,hm3⟩:=least ops.size (by simp_all);have hom:ops[m]? = some ops[m]:=Me (by omega);have hcm:all[m]? = some all[m]:=La (by omega)
   have mready:m∈Region.ready .any ops listed:=by
    rw [mem_ready]
    have hlm:m<listed.size:=by omega
    refine ⟨by grind,_,hom,fun e he hb=>?_⟩;exact hm3 _ ((hed m _ _ hom hcm).1 e he hb)
   simp_all
  have hj':=hj;rw [mem_ready] at hj';obtain ⟨h0,o,ho,he⟩:=hj';have hlt:m<ops.size:=(Mh.1 ho).1
  have hlm:m<listed.size:=by omega
  have hcm:all[m]? = some all[m]:=La (by omega)
  have hnl:L.testBit m=false:=by simp_all
  have hb:∀ b,(all[m]).bef.testBit b=true->L.testBit b=true:=fun b hb=>by
   have:=hed.closed (L:=fun i=>i<ops.size∧listed.getD i false=true) (j:=m) (fun i c b hi hc hL hb=>by
     have h1:=(hli i hL.1).1 hL.2;have h2:=hcl i c b hc h1 hb;have h3:=hed.lt hsz i c b hc hb
     grind) ho hcm (fun e he1 he2=>by
     grind) hb
   grind
  have hev:=Qnw all 0 h m _ hcm (by simp_all) hb;rw [Mi] at hev;generalize hcg:all[m]=c at hcm hev hb;obtain ⟨hd,hop1,hg⟩:=hop m _ c ho hcm
  have lnext:∀ i,i<ops.size->((listed.setIfInBounds m true).getD i false=true↔(Nat.lor L (2 ^ m)).testBit i=true):=by
   intro i hi;rw [Qwi]
   by_cases him:i=m
   ·simp_all
   rw [getD_set_ne false (fun e=>him e.symm),hli i hi]
   grind
  have cnext:∀ (i:Nat) c b,all[i]? = some c->(Nat.lor L (2 ^ m)).testBit i=true->c.bef.testBit b=true->(Nat.lor L (2 ^ m)).testBit b=true:=by grind [Qwi]
  have nnext:(listed.setIfInBounds m true).toList.count false=n:=by simp_all [List.count_set]
  have run:∀ tm1,TmOk θ (Qu θ H) w tm1 a->Q11 (EP P Gl) tm1 H (fun v hp=>put tm1 c.dst v fun tm=>Qit P Gl k all n (Nat.lor L (2 ^ m)) tm hp) c.op->Region.wanted o (yielded ops a.tmps)=true ->
    wpOp P ops Q m (wpAny P .any ops Q fuel (listed.setIfInBounds m true)) a w:=by
   intro tm1 hT1 hev hw;unfold wpOp;rw [ho];simp only [hw,Ak];refine .inl (Q76 hT1 hH hG hop1 hev (fun v cv H' θ' w' hkv hrv hH' hE'=>?_));rw [Q0y] at hkv;exact Qhd hsz hed hop hG0 hQ n _ _ H' hkv θ' _ w' (hE.trans hE') di hH' fuel _ (by simp_all) lnext cnext nnext (by omega)
  have skip:∀ tm1,TmOk θ (Qu θ H) w tm1 a->(put tm1 c.dst Uw fun tm=>Qit P Gl k all n (Nat.lor L (2 ^ m)) tm H)->Region.wanted o (yielded ops a.tmps)=false ->
    wpOp P ops Q m (wpAny P .any ops Q fuel (listed.setIfInBounds m true)) a w:=by
   intro tm1 hT1 hev hw;unfold wpOp;rw [ho];simp only [hw,Mg,Al];rw [Q0y] at hev;exact Qhd hsz hed hop hG0 hQ n _ _ H hev θ _ w hE d8 hH fuel _ (by simp_all) lnext cnext nnext (by omega)
  simp only [Q4j] at hev
  cases hgc:c.guard with
  | none=>
   rw [hgc] at hev hg
   cases hgo:o.guard with
   | some jb=>simp_all [Wd]
   | none=>exact run tm hT hev (by simp [Region.wanted,hgo])
  | some tb=>
   obtain ⟨t,want⟩:=tb;rw [hgc] at hev hg
   cases hgo:o.guard with
   | none=>simp_all [Wd]
   | some jb=>
    obtain ⟨j2,b⟩:=jb;rw [hgo] at hg;simp only [Wd,Le,Aj] at hg;obtain ⟨rfl,hj2⟩:=hg;simp only [Q41] at hev;generalize hvt:tm.getD t .any=vt at hev;split at hev
    ·rename_i x;obtain ⟨cv,e1,e2,e3⟩:=Q63 hT hvt (by simp);have:=Q8h e3;subst this;have hk1:=hT.known e2
     have hy':yielded ops a.tmps j2=some x:=by simp_all [yielded]
     simp only [Qa7,Q4i] at hev;cases x<;>cases b<;>simp only [Ak,Al,Mg] at hev
     ·exact run _ hk1 hev dZ
     ·exact skip _ hk1 hev dZ
     ·exact skip _ hk1 hev dZ
     exact run _ hk1 hev dZ
    ·obtain ⟨cv,e1,e2,e3⟩:=Q63 hT hvt (by simp)
     have hcv:cv = .tuple #[]:=dx
     have hy':yielded ops a.tmps j2=none:=by simp_all [yielded]
     exact skip _ hT hev dZ
    exact hev.elim
def Qtb {cs:List COper} {tm:List AV} {H:List AObj} {k:List AV->List AObj->Prop} (n:Nat) (hn:cs.length=n) (h:Qit P Gl k cs n 0 tm H):Qa1 P Gl cs tm H k:=by
 subst hn;intro id ops hk hm hst θ a w hT hH hG;obtain ⟨s1,s2⟩:=Q51 ops.toList _ hk;simp only [Qv3,Le] at hst
 have tol:∀ (i:Nat) o,ops[i]? = some o->ops.toList[i]? = some o:=fun i o h=>by simp_all
 have hsz:ops.size=cs.length:=by omega
 have hed:EdgeOk ops cs:=fun i o c ho hc=>by
  grind [Q91]
 have hop:∀ (i:Nat) o c,ops[i]? = some o->cs[i]? = some c->o.dst=c.dst∧Qa4 P o.op c.op=true∧Wd ops o.guard c.guard=true:=fun i o c ho hc=>s2 i o c (tol i o ho) hc;refine wp_region_any hm ?_
 let w1:World := { w with drawn:=w.drawn+1 }
 have e1:Evo θ H w θ (pad H.length H) w1:=Qiw θ H w _ _;have hp1:=Qrn hH H.length (w.drawn+1);rw [Qgt] at e1 hp1;refine Qhd hsz hed hop hG (k:=k) (fun tm' H' θ' a' w' hk' hT' hH' hE'=>?_) cs.length 0 tm H h θ a w1 ⟨e1,Lh _,fun b hb=>rfl⟩ (hT.mono e1) hp1 ops.size (Array.replicate ops.size false) (by simp) (fun i hi=>by simp_all) (fun i c b _ hi=>by simp_all) (by simp_all) (by omega);exact ⟨.normal,tm',H',θ',trivial,⟨rfl,hk'⟩,hT',hH',hE'⟩
end
end
end Go.Av
end
