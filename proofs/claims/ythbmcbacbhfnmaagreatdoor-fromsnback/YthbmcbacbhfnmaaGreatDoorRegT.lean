/- Part of FromsnBack: the law returns true; no condition. -/
import Derived.Test.YthbmcbacbhfnmaaGreatDoorRegE
import Derived.Test.YthbmcbacbhfnmaaGreatDoorChks
import Derived.Test.YthbmcbacbhfnmaaGreatDoorAvClosed4
import Derived.Test.YthbmcbacbhfnmaaGreatDoorAvSelf
set_option linter.all false
namespace Go.Av
noncomputable section
open Go.Proofs
attribute [local irreducible] Q5j Wz Qq Qaj Qa1 Q0
set_option maxHeartbeats 1000000
variable {Gl:Nat->Option (List PV)}
section
variable {R:Reg} {c n:List UInt8} {id:Int} {i j:Nat} {C:RCl} {v:List UInt8×Bool}
theorem Qyc (h:Vk c 0 R=none):Q6f Tryz.prog Gl 580 R [.str c,.int .i64 id] (.tuple [.str [],.int .i64 11]) R:=by
 refine Z80 rfl fun g hg=>Q8 Zb5 (Q8 k49 ?_:Qq Tryz.prog Gl 49 _ _ _);exact ge
theorem Z4r (h:Vk c 0 R=some (i,C)) (ha:Q50 id 0 C.all=some (j,v)) :
  Q6f Tryz.prog Gl 580 R [.str c,.int .i64 id] (.tuple [.str v.1,.int .i64 0]) R:=by
 refine Q3k rfl h fun g hg=>Q8 Zb5 (Q8 k49 ?_:Qq Tryz.prog Gl 49 _ _ _);refine Je (Ur R g 0 i hg h) (Q8 k65 ?_:Qq Tryz.prog Gl 65 _ _ _);refine Je (Q2w ha) (Je (Q2w ha) ?_);exact ⟨fzT (.cons (.p _) (.cons (.p _) .nil)),Gf [_] rfl⟩
theorem Z62 (h:Vk c 0 R=some (i,C)) (ha:Q50 id 0 C.all=none) :
  Q6f Tryz.prog Gl 580 R [.str c,.int .i64 id] (.tuple [.str [],.int .i64 11]) R:=by
 refine Q3k rfl h fun g hg=>Q8 Zb5 (Q8 k49 ?_:Qq Tryz.prog Gl 49 _ _ _);refine Je (Ur R g 0 i hg h) (Q8 k65 ?_:Qq Tryz.prog Gl 65 _ _ _);exact Gp (Q2r ha) ⟨fzT (.cons (.p _) (.cons (.p _) .nil)),Gf [_] rfl⟩
theorem Qtz (h:Vk c 0 R=none):Q6f Tryz.prog Gl 578 R [.str c,.int .i64 id] (.bool false) R:=by
 refine Z80 rfl fun g hg=>Q8 Zbf (Q8 k49 ?_:Qq Tryz.prog Gl 49 _ _ _);exact Gp (Q36 R g 0 h) ⟨.p _,rfl,rfl⟩
theorem Z2q (h:Vk c 0 R=some (i,C)) (ha:Q50 id 0 C.all=some (j,v)) :
  Q6f Tryz.prog Gl 578 R [.str c,.int .i64 id] (.bool v.2) R:=by
 refine Q3k rfl h fun g hg=>Q8 Zbf (Q8 k49 ?_:Qq Tryz.prog Gl 49 _ _ _);refine Je (Ur R g 0 i hg h) (Je (Q2w ha) ?_);exact ⟨.p _,Gf [] rfl⟩
theorem Z0p (h:Vk c 0 R=some (i,C)) (ha:Q50 id 0 C.all=none) :
  Q6f Tryz.prog Gl 578 R [.str c,.int .i64 id] (.bool false) R:=by
 refine Q3k rfl h fun g hg=>Q8 Zbf (Q8 k49 ?_:Qq Tryz.prog Gl 49 _ _ _);refine Je (Ur R g 0 i hg h) (Gp (Q2r ha) ?_);exact ⟨.p _,Gf [] rfl⟩
theorem Z77 (h:Vk c 0 R=none):Q6f Tryz.prog Gl 577 R [.str c,.str n] (.tuple [.int .i64 0,.int .i64 11]) R:=by
 refine Z80 rfl fun g hg=>Q8 Zbm (Q8 k49 ?_:Qq Tryz.prog Gl 49 _ _ _);exact ge
theorem Zch {x:Int} (h:Vk c 0 R=some (i,C)) (hn:Q8g n 0 C.ids=some (j,x)) :
  Q6f Tryz.prog Gl 577 R [.str c,.str n] (.tuple [.int .i64 x,.int .i64 0]) R:=by
 refine Q3k rfl h fun g hg=>Q8 Zbm (Q8 k49 ?_:Qq Tryz.prog Gl 49 _ _ _);refine Je (Ur R g 0 i hg h) (Je (Q9v hn) ?_);exact iH
theorem Zca (h:Vk c 0 R=some (i,C)) (hn:Q8g n 0 C.ids=none) :
  Q6f Tryz.prog Gl 577 R [.str c,.str n] (.tuple [.int .i64 0,.int .i64 11]) R:=by
 refine Q3k rfl h fun g hg=>Q8 Zbm (Q8 k49 ?_:Qq Tryz.prog Gl 49 _ _ _);refine Je (Ur R g 0 i hg h) (Gp (Q46 hn) ?_);exact iH
theorem Za2:Q6f Tryz.prog Gl 577 R [.str c,.str n] (.tuple [.int .i64 (rID R c n).1,.int .i64 (rID R c n).2]) R:=by
 grind [rID,Z77,Zca,Zch]
theorem Z7e:Qt5 Tryz.prog Gl 28:=Zcf (Q8 k28 ⟨0,1,rfl,rfl,rfl,by decide⟩)
theorem Z6p (hp:Qcp Tryz.prog Gl 58 [.str n] (.bool false)):Q6f Tryz.prog Gl 30 R [.str c,.str n] (.tuple [.int .i64 0,.bool false,.int .i64 10]) R:=by
 refine Z80 rfl fun g hg=>Q8 k30 (Uo hp (.cons (.p _) .nil) ?_);exact ⟨fzT (.cons (.p _) (.cons (.p _) (.cons (.p _) .nil))),rfl,rfl⟩
theorem Z6t (hp:Qcp Tryz.prog Gl 58 [.str n] (.bool true)) (h:Vk c 0 R=some (i,C)) (hn:Q8g n 0 C.ids=some (j,id)):Q6f Tryz.prog Gl 30 R [.str c,.str n] (.tuple [.int .i64 id,.bool false,.int .i64 0]) R:=by
 refine Q3k rfl h fun g hg=>Q8 k30 (Uo hp (.cons (.p _) .nil) ?_);refine (Q8 k59 ?_:Qq Tryz.prog Gl 59 _ _ _);refine Je (Ur R g 0 i hg h) (Je (Q9v hn) ?_);exact gf
theorem Z5l (hp:Qcp Tryz.prog Gl 58 [.str n] (.bool true)) (h:Vk c 0 R=none):Q6f Tryz.prog Gl 30 R [.str c,.str n] (.tuple [.int .i64 1,.bool true,.int .i64 0]) (R ++ [(c,⟨[(n,1)],[(1,n,false)],[],2⟩)]):=by
 refine Zos rfl fun g hg=>Q8 k30 (Uo hp (.cons (.p _) .nil) ?_);refine (Q8 k59 ?_:Qq Tryz.prog Gl 59 _ _ _);refine Gp (Q36 R g 0 h) (Gp (Q36 R g 0 h) ?_);refine apP (l:=gm R g) rfl (Qp3 ?_);refine (Q8 k60 ?_:Qq Tryz.prog Gl 60 _ _ _);refine Zf 1 ?_;refine ifF (cF (by unfold Q0;decide)) ?_;refine Zf 1 ?_;refine ifT (cF (by unfold Q0;decide)) ?_;refine (Q8 k65 ?_:Qq Tryz.prog Gl 65 _ _ _);refine Qp3 ?_;refine ifF (cF (by unfold Q0;decide)) ?_;refine (Q8 k61 ?_:Qq Tryz.prog Gl 61 _ _ _);refine Q2c 8 rfl rfl (Qp3 ?_);refine Q2c 7 rfl rfl (Qp3 ?_);exact ⟨fzT (.cons (.p _) (.cons (.p _) (.cons (.p _) .nil))),Qxt (ids := [(n,1)]) (all := [(1,n,false)]) [_,_] rfl⟩
theorem Z7b (hp:Qcp Tryz.prog Gl 58 [.str n] (.bool false)):Q6f Tryz.prog Gl 32 R [.str c,.str n,.int .i64 id] (.int .i64 10) R:=by
 refine Z80 rfl fun g hg=>Q8 k32 (Uo hp (.cons (.p _) .nil) ?_);exact ⟨.p _,rfl,rfl⟩
theorem Z4q (hp:Qcp Tryz.prog Gl 58 [.str n] (.bool true)) (hi:¬ (1≤id∧id≤65534)):Q6f Tryz.prog Gl 32 R [.str c,.str n,.int .i64 id] (.int .i64 2) R:=by
 refine Z80 rfl fun g hg=>Q8 k32 (Uo hp (.cons (.p _) .nil) ?_);refine ifP (fun h1=>?_) (fun h1=>?_)
 ·exact ⟨.p _,rfl,rfl⟩
 refine ifP (fun h2=>?_) (fun h2=>?_)
 ·exact ⟨.p _,rfl,rfl⟩
 simp_all [Env.c1,Q0]
theorem Z6z (hp:Qcp Tryz.prog Gl 58 [.str n] (.bool true)) (hi:1≤id∧id≤65534) (h:Vk c 0 R=none):Q6f Tryz.prog Gl 32 R [.str c,.str n,.int .i64 id] (.int .i64 0) (R ++ [(c,⟨[(n,id)],[(id,n,true)],[],1⟩)]):=by
 refine Zos rfl fun g hg=>Q8 k32 (Uo hp (.cons (.p _) .nil) ?_);refine ifF (cF cK) (ifF (cF cK) ?_);refine (Q8 k49 ?_:Qq Tryz.prog Gl 49 _ _ _);refine Gp (Q36 R g 0 h) (Qtb 5 rfl ?_)
 repeat' first
  | exact trivial
  | refine Gp (Q36 R g 0 h) ?_
  | refine apP (l:=gm R g) rfl ?_
  | refine Qp3 ?_
  | refine Q2c 8 rfl rfl ?_
  | refine Q2c 7 rfl rfl ?_
  | refine (Q8 k59 ?_:Qq Tryz.prog Gl 59 _ _ _)
  | refine (Q8 k61 ?_:Qq Tryz.prog Gl 61 _ _ _)
  | exact ⟨.p _,Qoq (ids := [(n,id)]) (all := [(id,n,true)]) 3 (by decide) rfl rfl rfl rfl rfl⟩
  | refine ⟨?_,?_⟩
theorem Z15 (hp:Qcp Tryz.prog Gl 58 [.str n] (.bool true)) (hi:1≤id∧id≤65534) (h:Vk c 0 R=some (i,C)) (ha:Q50 id 0 C.all=some (j,n,true)) :
  Q6f Tryz.prog Gl 32 R [.str c,.str n,.int .i64 id] (.int .i64 0) R:=by
 refine Q3k rfl h fun g hg=>Q8 k32 (Uo hp (.cons (.p _) .nil) ?_);refine ifF (cF cK) (ifF (cF cK) ?_);refine (Q8 k49 ?_:Qq Tryz.prog Gl 49 _ _ _);refine Je (Ur R g 0 i hg h) (Je (Q2w ha) ?_);exact ifT (by simp [ifB]) ⟨.p _,Gf [_,_] rfl⟩
theorem Zb1 (hp:Qcp Tryz.prog Gl 58 [.str n] (.bool true)) (hi:1≤id∧id≤65534) (h:Vk c 0 R=some (i,C)) (ha:Q50 id 0 C.all=some (j,v)) (hv:v≠(n,true)) :
  Q6f Tryz.prog Gl 32 R [.str c,.str n,.int .i64 id] (.int .i64 16) R:=by
 refine Q3k rfl h fun g hg=>Q8 k32 (Uo hp (.cons (.p _) .nil) ?_);refine ifF (cF cK) (ifF (cF cK) ?_);refine (Q8 k49 ?_:Qq Tryz.prog Gl 49 _ _ _);refine Je (Ur R g 0 i hg h) (Je (Q2w ha) ?_);refine ifF (by grind [ifB]) ?_
 cases hn:Q8g n 0 C.ids with
 | none=>
  refine Gp (Q46 hn) (Q8 k65 ?_:Qq Tryz.prog Gl 65 _ _ _);exact Je (Q2w ha) ⟨.p _,Gf [_,_,_] rfl⟩
 | some q=>
  exact Je (Q9v hn) ⟨.p _,Gf [_,_] rfl⟩
theorem Qwh (hp:Qcp Tryz.prog Gl 58 [.str n] (.bool true)) (hi:1≤id∧id≤65534) (h:Vk c 0 R=some (i,C)) (ha:Q50 id 0 C.all=none) {x:Int} (hn:Q8g n 0 C.ids=some (j,x)) :
  Q6f Tryz.prog Gl 32 R [.str c,.str n,.int .i64 id] (.int .i64 16) R:=by
 refine Q3k rfl h fun g hg=>Q8 k32 (Uo hp (.cons (.p _) .nil) ?_);refine ifF (cF cK) (ifF (cF cK) ?_);refine (Q8 k49 ?_:Qq Tryz.prog Gl 49 _ _ _);refine Je (Ur R g 0 i hg h) (Gp (Q2r ha) ?_);exact Je (Q9v hn) ⟨.p _,Gf [_,_] rfl⟩
theorem Z6o (hp:Qcp Tryz.prog Gl 58 [.str n] (.bool true)) (hi:1≤id∧id≤65534) (h:Vk c 0 R=some (i,C)) (ha:Q50 id 0 C.all=none) (hn:Q8g n 0 C.ids=none) :
  Q6f Tryz.prog Gl 32 R [.str c,.str n,.int .i64 id] (.int .i64 0) (R.set i (c,⟨C.ids ++ [(n,id)],C.all ++ [(id,n,true)],C.back,C.next⟩)):=by
 refine Zb9 rfl h fun g hg=>Q8 k32 (Uo hp (.cons (.p _) .nil) ?_);refine ifF (cF cK) (ifF (cF cK) ?_);refine (Q8 k49 ?_:Qq Tryz.prog Gl 49 _ _ _);refine Je (Ur R g 0 i hg h) (Gp (Q2r ha) ?_);refine Gp (Q46 hn) (Q8 k65 ?_:Qq Tryz.prog Gl 65 _ _ _);refine Gp (Q2r ha) (Qtb 5 rfl ?_)
 repeat' first
  | exact trivial
  | refine Je (Ur R g 0 i hg h) ?_
  | refine Gp (Q46 hn) ?_
  | refine Gp (Q2r ha) ?_
  | refine apP (l:=Qio C.ids) (Qww _ _ _) ?_
  | refine apP (l:=Qdw C.all) (Qwc _ _ _ _) ?_
  | refine Q2c 8 rfl rfl ?_
  | refine Q2c 7 rfl rfl ?_
  | refine (Q8 k59 ?_:Qq Tryz.prog Gl 59 _ _ _)
  | refine (Q8 k61 ?_:Qq Tryz.prog Gl 61 _ _ _)
  | exact ⟨.p _,Gf [_,_,_,_] rfl⟩
  | exact ⟨.p _,Gf [_,_,_] rfl⟩
  | refine ⟨?_,?_⟩
def lsT:List AV := .ptr 2 0 :: .any :: .p (.int .i64 0)::a16 (a16 (a8 (a4 (a2 (.any :: [])))))
theorem Z4u {s:Int} (h1:1≤s) (h2:s≤65534):IntKind.wrap .i64 (s+1)=s+1:=gu
theorem Qwa {g:List (Nat×Nat)} {a b} {d:List Int} {w x:Int} {H':List AObj} (e:w=x) (h:Qkd R g i c ⟨a,b,d,w⟩ H'):Qkd R g i c ⟨a,b,d,x⟩ H':=e▸h
theorem Z7a (hp:Qcp Tryz.prog Gl 58 [.str n] (.bool true)) {ids:List (List UInt8×Int)} {all:List (Int×List UInt8×Bool)} {s0 nx:Int} {N:Nat} (h:Vk c 0 R=some (i,⟨ids,all,[],s0⟩)) (hn:Q8g n 0 ids=none)
  (hl:Q7y all N s0=some (id,nx)) (h0:id≠0):Q6f Tryz.prog Gl 30 R [.str c,.str n] (.tuple [.int .i64 id,.bool true,.int .i64 0]) (R.set i (c,⟨ids ++ [(n,id)],all ++ [(id,n,false)],[],nx⟩)):=by
 refine Zb9 rfl h fun g hg=>Q8 k30 (Uo hp (.cons (.p _) .nil) ?_);refine (Q8 k59 ?_:Qq Tryz.prog Gl 59 _ _ _);refine Je (Ur R g 0 i hg h) (Gp (Q46 hn) ?_);refine (Q8 k60 ?_:Qq Tryz.prog Gl 60 _ _ _);refine Zf 1 ?_;refine ifF (cF (by unfold Q0;rfl)) ?_
 refine lpC (fun _=>lsT) (fun s=>Qed R g i c ⟨ids,all,[],s⟩) (Q7y all) s0 hl (fun i=>i) (Zbh [] (by rfl) ga rfl) (fun k s hk=>?_)
 simp only [Q7y] at hk;split at hk
 ·rename_i h1;refine ifP (fun h2=>?_) (fun h2=>?_)
  ·rw [Env.c1] at h2
   have h2:s≤65534:=by grind
   rw [Af h2] at hk;refine (Q8 k65 ?_:Qq Tryz.prog Gl 65 _ _ _)
   cases ha:Q50 s 0 all with
   | some q=>
    exact bX
   | none=>
    simp only [ha] at hk;cases hk;refine Gp (Q2r ha) (ifF (cF cK) ?_);refine (Q8 k61 ?_:Qq Tryz.prog Gl 61 _ _ _);refine Q2c 8 rfl rfl (Gp (Q46 hn) ?_);refine apP (l:=Qio ids) (Qww _ _ _) (Q2c 7 rfl rfl ?_);refine Gp (Q2r ha) (apP (l:=Qdw all) (Qwc _ _ _ _) ?_);exact ⟨fzT (.cons (.p _) (.cons (.p _) (.cons (.p _) .nil))),Qwa (Z4u h1 h2) (Gf [_,_] rfl)⟩
  simp_all [Env.c1,Q0,Ae]
 simp_all
theorem Z1l (hp:Qcp Tryz.prog Gl 58 [.str n] (.bool true)) {ids:List (List UInt8×Int)} {all:List (Int×List UInt8×Bool)} {s0 nx:Int} {N:Nat} (h:Vk c 0 R=some (i,⟨ids,all,[],s0⟩)) (hn:Q8g n 0 ids=none)
  (hl:Q7y all N s0=some (0,nx)):Q6f Tryz.prog Gl 30 R [.str c,.str n] (.tuple [.int .i64 0,.bool false,.int .i64 12]) (R.set i (c,⟨ids,all,[],nx⟩)):=by
 refine Zb9 rfl h fun g hg=>Q8 k30 (Uo hp (.cons (.p _) .nil) ?_);refine (Q8 k59 ?_:Qq Tryz.prog Gl 59 _ _ _);refine Je (Ur R g 0 i hg h) (Gp (Q46 hn) ?_);refine (Q8 k60 ?_:Qq Tryz.prog Gl 60 _ _ _);refine Zf 1 ?_;refine ifF (cF (by unfold Q0;rfl)) ?_
 refine lpC (fun _=>lsT) (fun s=>Qed R g i c ⟨ids,all,[],s⟩) (Q7y all) s0 hl (fun i=>i) (Zbh [] (by rfl) ga rfl) (fun k s hk=>?_)
 simp only [Q7y] at hk;split at hk
 ·rename_i h1;refine ifP (fun h2=>?_) (fun h2=>?_)
  ·rw [Env.c1] at h2
   have h2:s≤65534:=cK
   rw [Af h2] at hk;refine (Q8 k65 ?_:Qq Tryz.prog Gl 65 _ _ _)
   cases ha:Q50 s 0 all with
   | some q=>
    exact bX
   | none=>
    grind
  rw [Env.c1] at h2;unfold Q0 at h2;rw [Ae (by simp_all)] at hk;cases hk;refine ifT (cF (by unfold Q0;rfl)) ?_;exact gf
 simp_all
theorem Z0r:Q6f Tryz.prog Gl 580 R [.str c,.int .i64 id] (.tuple [.str (Qc1 R c id).1,.int .i64 (Qc1 R c id).2]) R:=by
 unfold Qc1
 cases h:Vk c 0 R with
 | none=>exact Qyc h
 | some q=>
  obtain ⟨i,C⟩:=q;show Q6f _ _ _ _ _ (.tuple [.str (match Q50 id 0 C.all with | none=>_ | some (_,v)=>_:List UInt8×Int).1,.int .i64 (match Q50 id 0 C.all with | none=>_ | some (_,v)=>_:List UInt8×Int).2]) _;cases ha:Q50 id 0 C.all<;>grind [Z62,Z4r]
theorem Qy1:Q6f Tryz.prog Gl 578 R [.str c,.int .i64 id] (.bool (Qc9 R c id)) R:=by
 unfold Qc9
 cases h:Vk c 0 R with
 | none=>exact Qtz h
 | some q=>
  obtain ⟨i,C⟩:=q;show Q6f _ _ _ _ _ (.bool (match Q50 id 0 C.all with | none=>_ | some (_,v)=>_)) _;cases ha:Q50 id 0 C.all<;>grind [Z0p,Z2q]
theorem Z7w {b:Bool} (hw:WR R) (hp:Qcp Tryz.prog Gl 58 [.str n] (.bool b)) :
  Q6f Tryz.prog Gl 30 R [.str c,.str n] (.tuple [.int .i64 (Qil b R c n).1.1,.bool (Qil b R c n).1.2.1,.int .i64 (Qil b R c n).1.2.2]) (Qil b R c n).2:=by
 cases b with
 | false=>exact Z6p hp
 | true=>
  simp only [Qil,Ak,Q47,Z02]
  cases h:Vk c 0 R with
  | none=>exact Z5l hp h
  | some q=>
   obtain ⟨i,C⟩:=q;have hwc:=hw _ (Qhq h);simp only [Mq,Qoe]
   cases hn:Q8g n 0 C.ids with
   | some q=>grind [Qo5,Z6t]
   | none=>
    obtain ⟨ids,all,back,s0⟩:=C;obtain ⟨h1,h2,h3⟩:=hwc
    simp only at h1 h2 h3 hn
    subst h1;obtain ⟨id,nx,hl,_,_,_⟩:=Qbt all 65536 s0 h2 h3 (by omega)
    grind [Z1l,Z7a]
theorem Z7c {b:Bool} (hp:Qcp Tryz.prog Gl 58 [.str n] (.bool b)) :
  Q6f Tryz.prog Gl 32 R [.str c,.str n,.int .i64 id] (.int .i64 (Qjm b R c n id).1) (Qjm b R c n id).2:=by
 grind [Z7b,Qjm,Q47,Z02,Z6z,Qnc,Qo5,Z15,Zb1,Qwh,Z6o,Z4q]
end
end
end Go.Av
