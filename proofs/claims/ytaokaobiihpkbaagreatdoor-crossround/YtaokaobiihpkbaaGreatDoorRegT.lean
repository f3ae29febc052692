/- Part of the proof of CrossRound: for every input the law returns true; no condition. -/
import Derived.Test.YtaokaobiihpkbaaGreatDoorRegS
import Derived.Test.YtaokaobiihpkbaaGreatDoorDrawA
import Derived.Test.YtaokaobiihpkbaaGreatDoorChks
import Derived.Test.YtaokaobiihpkbaaGreatDoorAvTac
import Derived.Test.YtaokaobiihpkbaaGreatDoorAvAbb
set_option linter.all false
namespace Go.Av
noncomputable section
open Go.Proofs
attribute [local irreducible] Q2g Xd Qu Q6p Q5q Q5
set_option maxHeartbeats 1000000
variable {Gl:Nat→Option (List PV)}
section
variable {R:Reg} {c n:List UInt8} {id:Int} {i j:Nat} {C:RCl} {v:List UInt8×Bool}
theorem Qn1 (h:J2 c 0 R=none):Q2x Tryz.prog Gl 54 R [.str c,.int .i64 id] (.bool false) R:=by
 refine Qwu rfl fun g hg=>?_;refine Qf k54 ?_;refine (Qf k42 ?_:Qu Tryz.prog Gl 42 _ _ _);refine U6 (Q0q R g 0 h) ?_;exact ⟨.p _,rfl,rfl⟩
theorem Qs5 (h:J2 c 0 R=some (i,C)) (ha:Q3c id 0 C.all=some (j,v)) :
  Q2x Tryz.prog Gl 54 R [.str c,.int .i64 id] (.bool v.2) R:=by
 refine Q1c rfl h fun g hg=>?_;refine Qf k54 ?_;refine (Qf k42 ?_:Qu Tryz.prog Gl 42 _ _ _);refine Vr (Ve R g 0 i hg h) ?_;refine Vr (Q14 ha) ?_;exact ⟨.p _,Ue [] rfl⟩
theorem Qrr (h:J2 c 0 R=some (i,C)) (ha:Q3c id 0 C.all=none) :
  Q2x Tryz.prog Gl 54 R [.str c,.int .i64 id] (.bool false) R:=by
 refine Q1c rfl h fun g hg=>?_;refine Qf k54 ?_;refine (Qf k42 ?_:Qu Tryz.prog Gl 42 _ _ _);refine Vr (Ve R g 0 i hg h) ?_;refine U6 (Gp ha) ?_;exact ⟨.p _,Ue [] rfl⟩
theorem Quv (h:J2 c 0 R=none):Q2x Tryz.prog Gl 17 R [.str c,.str n] (.tuple [.int .i64 0,.int .i64 11]) R:=by
 refine Qwu rfl fun g hg=>?_;refine Qf k17 ?_;refine (Qf k42 ?_:Qu Tryz.prog Gl 42 _ _ _);refine U6 (Q0q R g 0 h) ?_;exact ⟨fzT (.cons (.p _) (.cons (.p _) .nil)),rfl,rfl⟩
theorem Z0e {x:Int} (h:J2 c 0 R=some (i,C)) (hn:Q0z n 0 C.ids=some (j,x)) :
  Q2x Tryz.prog Gl 17 R [.str c,.str n] (.tuple [.int .i64 x,.int .i64 0]) R:=by
 refine Q1c rfl h fun g hg=>?_;refine Qf k17 ?_;refine (Qf k42 ?_:Qu Tryz.prog Gl 42 _ _ _);refine Vr (Ve R g 0 i hg h) ?_;refine Vr (Q4b hn) ?_;exact ⟨fzT (.cons (.p _) (.cons (.p _) .nil)),Ue [] rfl⟩
theorem Qzc (h:J2 c 0 R=some (i,C)) (hn:Q0z n 0 C.ids=none) :
  Q2x Tryz.prog Gl 17 R [.str c,.str n] (.tuple [.int .i64 0,.int .i64 11]) R:=by
 refine Q1c rfl h fun g hg=>?_;refine Qf k17 ?_;refine (Qf k42 ?_:Qu Tryz.prog Gl 42 _ _ _);refine Vr (Ve R g 0 i hg h) ?_;refine U6 (Gn hn) ?_;exact ⟨fzT (.cons (.p _) (.cons (.p _) .nil)),Ue [] rfl⟩
theorem Qy2:Q2x Tryz.prog Gl 17 R [.str c,.str n] (.tuple [.int .i64 (rID R c n).1,.int .i64 (rID R c n).2]) R:=by
 unfold rID
 cases h:J2 c 0 R with
 | none=>exact Quv h
 | some q=>
  obtain ⟨i,C⟩:=q;show Q2x _ _ _ _ _ (.tuple [.int .i64 (match Q0z n 0 C.ids with | none=>_ | some (_,id)=>_:Int×Int).1,.int .i64 (match Q0z n 0 C.ids with | none=>_ | some (_,id)=>_:Int×Int).2]) _
  cases hn:Q0z n 0 C.ids with
  | none=>exact Qzc h hn
  | some v=>exact Z0e h hn
theorem Qpg:Ql5 Tryz.prog Gl 23:=Qzb (Qf k23 ⟨0,1,rfl,rfl,rfl,by decide⟩)
theorem Qv6 (hp:Q71 Tryz.prog Gl 45 [.str n] (.bool false)):Q2x Tryz.prog Gl 25 R [.str c,.str n] (.tuple [.int .i64 0,.bool false,.int .i64 10]) R:=by
 refine Qwu rfl fun g hg=>?_;refine Qf k25 ?_;refine Xz hp (.cons (.p _) .nil) ?_;exact ⟨fzT (.cons (.p _) (.cons (.p _) (.cons (.p _) .nil))),rfl,rfl⟩
theorem Qve (hp:Q71 Tryz.prog Gl 45 [.str n] (.bool true)) (h:J2 c 0 R=some (i,C)) (hn:Q0z n 0 C.ids=some (j,id)):Q2x Tryz.prog Gl 25 R [.str c,.str n] (.tuple [.int .i64 id,.bool false,.int .i64 0]) R:=by
 refine Q1c rfl h fun g hg=>?_;refine Qf k25 ?_;refine Xz hp (.cons (.p _) .nil) ?_;refine (Qf k46 ?_:Qu Tryz.prog Gl 46 _ _ _);refine Vr (Ve R g 0 i hg h) ?_;refine Vr (Q4b hn) ?_;exact ⟨fzT (.cons (.p _) (.cons (.p _) (.cons (.p _) .nil))),Ue [] rfl⟩
theorem Qva (hp:Q71 Tryz.prog Gl 45 [.str n] (.bool true)) (h:J2 c 0 R=none):Q2x Tryz.prog Gl 25 R [.str c,.str n] (.tuple [.int .i64 1,.bool true,.int .i64 0]) (R ++ [(c,⟨[(n,1)],[(1,n,false)],[],2⟩)]):=by
 refine Z1o rfl fun g hg=>?_;refine Qf k25 ?_;refine Xz hp (.cons (.p _) .nil) ?_;refine (Qf k46 ?_:Qu Tryz.prog Gl 46 _ _ _);refine U6 (Q0q R g 0 h) ?_;refine U6 (Q0q R g 0 h) ?_;refine apP (l:=gm R g) rfl ?_;refine Qi9 ?_;refine (Qf k47 ?_:Qu Tryz.prog Gl 47 _ _ _);refine Qx 1 ?_;refine ifF (cF (by unfold Q5;decide)) ?_;refine Qx 1 ?_;refine ifT (cF (by unfold Q5;decide)) ?_;refine (Qf k52 ?_:Qu Tryz.prog Gl 52 _ _ _);refine Qi9 ?_;refine ifF (cF (by unfold Q5;decide)) ?_;refine (Qf k48 ?_:Qu Tryz.prog Gl 48 _ _ _);refine Vu 8 rfl rfl ?_;refine Qi9 ?_;refine Vu 7 rfl rfl ?_;refine Qi9 ?_;exact ⟨fzT (.cons (.p _) (.cons (.p _) (.cons (.p _) .nil))),Qo1 (ids := [(n,1)]) (all := [(1,n,false)]) [_,_] rfl⟩
theorem Qu5 (hp:Q71 Tryz.prog Gl 45 [.str n] (.bool false)):Q2x Tryz.prog Gl 27 R [.str c,.str n,.int .i64 id] (.int .i64 10) R:=by
 refine Qwu rfl fun g hg=>?_;refine Qf k27 ?_;refine Xz hp (.cons (.p _) .nil) ?_;exact ⟨.p _,rfl,rfl⟩
theorem Qw1 (hp:Q71 Tryz.prog Gl 45 [.str n] (.bool true)) (hi:¬ (1≤id∧id≤65534)):Q2x Tryz.prog Gl 27 R [.str c,.str n,.int .i64 id] (.int .i64 2) R:=by
 refine Qwu rfl fun g hg=>?_;refine Qf k27 ?_;refine Xz hp (.cons (.p _) .nil) ?_;refine ifP (fun h1=>?_) (fun h1=>?_)
 ·exact ⟨.p _,rfl,rfl⟩
 refine ifP (fun h2=>?_) (fun h2=>?_)
 ·exact ⟨.p _,rfl,rfl⟩
 exfalso;rw [Env.c1] at h1 h2;unfold Q5 at h1 h2;simp at h1 h2;omega
theorem Qub (hp:Q71 Tryz.prog Gl 45 [.str n] (.bool true)) (hi:1≤id∧id≤65534) (h:J2 c 0 R=none):Q2x Tryz.prog Gl 27 R [.str c,.str n,.int .i64 id] (.int .i64 0) (R ++ [(c,⟨[(n,id)],[(id,n,true)],[],1⟩)]):=by
 refine Z1o rfl fun g hg=>?_;refine Qf k27 ?_;refine Xz hp (.cons (.p _) .nil) ?_;refine ifF (cF (by unfold Q5;simp;omega)) ?_;refine ifF (cF (by unfold Q5;simp;omega)) ?_;refine (Qf k42 ?_:Qu Tryz.prog Gl 42 _ _ _);refine U6 (Q0q R g 0 h) ?_;refine Qla 5 rfl ?_
 repeat' first
  | exact trivial
  | refine U6 (Q0q R g 0 h) ?_
  | refine apP (l:=gm R g) rfl ?_
  | refine Qi9 ?_
  | refine Vu 8 rfl rfl ?_
  | refine Vu 7 rfl rfl ?_
  | refine (Qf k46 ?_:Qu Tryz.prog Gl 46 _ _ _)
  | refine (Qf k48 ?_:Qu Tryz.prog Gl 48 _ _ _)
  | exact ⟨.p _,Qhz (ids := [(n,id)]) (all := [(id,n,true)]) 3 (by decide) rfl rfl rfl rfl rfl⟩
  | refine ⟨?_,?_⟩
theorem Qr5 (hp:Q71 Tryz.prog Gl 45 [.str n] (.bool true)) (hi:1≤id∧id≤65534) (h:J2 c 0 R=some (i,C)) (ha:Q3c id 0 C.all=some (j,n,true)) :
  Q2x Tryz.prog Gl 27 R [.str c,.str n,.int .i64 id] (.int .i64 0) R:=by
 refine Q1c rfl h fun g hg=>?_;refine Qf k27 ?_;refine Xz hp (.cons (.p _) .nil) ?_;refine ifF (cF (by unfold Q5;simp;omega)) ?_;refine ifF (cF (by unfold Q5;simp;omega)) ?_;refine (Qf k42 ?_:Qu Tryz.prog Gl 42 _ _ _);refine Vr (Ve R g 0 i hg h) ?_;refine Vr (Q14 ha) ?_;refine ifT (by simp [ifB]) ?_;exact ⟨.p _,Ue [_,_] rfl⟩
theorem Qx7 (hp:Q71 Tryz.prog Gl 45 [.str n] (.bool true)) (hi:1≤id∧id≤65534) (h:J2 c 0 R=some (i,C)) (ha:Q3c id 0 C.all=some (j,v)) (hv:v≠(n,true)) :
  Q2x Tryz.prog Gl 27 R [.str c,.str n,.int .i64 id] (.int .i64 16) R:=by
 refine Q1c rfl h fun g hg=>?_;refine Qf k27 ?_;refine Xz hp (.cons (.p _) .nil) ?_;refine ifF (cF (by unfold Q5;simp;omega)) ?_;refine ifF (cF (by unfold Q5;simp;omega)) ?_;refine (Qf k42 ?_:Qu Tryz.prog Gl 42 _ _ _);refine Vr (Ve R g 0 i hg h) ?_;refine Vr (Q14 ha) ?_;refine ifF (by obtain ⟨a,b⟩:=v;by_cases e:a=n<;>cases b<;>simp_all [ifB]) ?_
 cases hn:Q0z n 0 C.ids with
 | none=>
  refine U6 (Gn hn) ?_;refine (Qf k52 ?_:Qu Tryz.prog Gl 52 _ _ _);refine Vr (Q14 ha) ?_;exact ⟨.p _,Ue [_,_,_] rfl⟩
 | some q=>
  refine Vr (Q4b hn) ?_;exact ⟨.p _,Ue [_,_] rfl⟩
theorem Qpz (hp:Q71 Tryz.prog Gl 45 [.str n] (.bool true)) (hi:1≤id∧id≤65534) (h:J2 c 0 R=some (i,C)) (ha:Q3c id 0 C.all=none) {x:Int} (hn:Q0z n 0 C.ids=some (j,x)) :
  Q2x Tryz.prog Gl 27 R [.str c,.str n,.int .i64 id] (.int .i64 16) R:=by
 refine Q1c rfl h fun g hg=>?_;refine Qf k27 ?_;refine Xz hp (.cons (.p _) .nil) ?_;refine ifF (cF (by unfold Q5;simp;omega)) ?_;refine ifF (cF (by unfold Q5;simp;omega)) ?_;refine (Qf k42 ?_:Qu Tryz.prog Gl 42 _ _ _);refine Vr (Ve R g 0 i hg h) ?_;refine U6 (Gp ha) ?_;refine Vr (Q4b hn) ?_;exact ⟨.p _,Ue [_,_] rfl⟩
theorem Qvm (hp:Q71 Tryz.prog Gl 45 [.str n] (.bool true)) (hi:1≤id∧id≤65534) (h:J2 c 0 R=some (i,C)) (ha:Q3c id 0 C.all=none) (hn:Q0z n 0 C.ids=none) :
  Q2x Tryz.prog Gl 27 R [.str c,.str n,.int .i64 id] (.int .i64 0) (R.set i (c,⟨C.ids ++ [(n,id)],C.all ++ [(id,n,true)],C.back,C.next⟩)):=by
 refine Qyz rfl h fun g hg=>?_;refine Qf k27 ?_;refine Xz hp (.cons (.p _) .nil) ?_;refine ifF (cF (by unfold Q5;simp;omega)) ?_;refine ifF (cF (by unfold Q5;simp;omega)) ?_;refine (Qf k42 ?_:Qu Tryz.prog Gl 42 _ _ _);refine Vr (Ve R g 0 i hg h) ?_;refine U6 (Gp ha) ?_;refine U6 (Gn hn) ?_;refine (Qf k52 ?_:Qu Tryz.prog Gl 52 _ _ _);refine U6 (Gp ha) ?_;refine Qla 5 rfl ?_
 repeat' first
  | exact trivial
  | refine Vr (Ve R g 0 i hg h) ?_
  | refine U6 (Gn hn) ?_
  | refine U6 (Gp ha) ?_
  | refine apP (l:=Qcb C.ids) (Qp8 _ _ _) ?_
  | refine apP (l:=Qb4 C.all) (Qp3 _ _ _ _) ?_
  | refine Vu 8 rfl rfl ?_
  | refine Vu 7 rfl rfl ?_
  | refine (Qf k46 ?_:Qu Tryz.prog Gl 46 _ _ _)
  | refine (Qf k48 ?_:Qu Tryz.prog Gl 48 _ _ _)
  | exact ⟨.p _,Ue [_,_,_,_] rfl⟩
  | exact ⟨.p _,Ue [_,_,_] rfl⟩
  | refine ⟨?_,?_⟩
def lsT:List AV := .ptr 2 0 :: .any :: .p (.int .i64 0)::a16 (a16 (a8 (a4 (a2 (.any :: [])))))
theorem Qvt {s:Int} (h1:1≤s) (h2:s≤65534):IntKind.wrap .i64 (s+1)=s+1:=by
 rw [IntKind.wrap_i64];omega
theorem Qq3 {g:List (Nat×Nat)} {a b} {d:List Int} {w x:Int} {H':List AObj} (e:w=x) (h:Qej R g i c ⟨a,b,d,w⟩ H'):Qej R g i c ⟨a,b,d,x⟩ H':=e▸h
theorem Qv7 (hp:Q71 Tryz.prog Gl 45 [.str n] (.bool true)) {ids:List (List UInt8×Int)} {all:List (Int×List UInt8×Bool)} {s0 nx:Int} {N:Nat} (h:J2 c 0 R=some (i,⟨ids,all,[],s0⟩)) (hn:Q0z n 0 ids=none)
  (hl:Q3v all N s0=some (id,nx)) (h0:id≠0):Q2x Tryz.prog Gl 25 R [.str c,.str n] (.tuple [.int .i64 id,.bool true,.int .i64 0]) (R.set i (c,⟨ids ++ [(n,id)],all ++ [(id,n,false)],[],nx⟩)):=by
 refine Qyz rfl h fun g hg=>?_;refine Qf k25 ?_;refine Xz hp (.cons (.p _) .nil) ?_;refine (Qf k46 ?_:Qu Tryz.prog Gl 46 _ _ _);refine Vr (Ve R g 0 i hg h) ?_;refine U6 (Gn hn) ?_;refine (Qf k47 ?_:Qu Tryz.prog Gl 47 _ _ _);refine Qx 1 ?_;refine ifF (cF (by unfold Q5;rfl)) ?_
 refine lpC (fun _=>lsT) (fun s=>Qgb R g i c ⟨ids,all,[],s⟩) (Q3v all) s0 hl (fun i=>i) (Qyo [] (by rfl) (by repeat' first | exact rN | refine rA ?_ | refine rE rfl ?_) rfl) (fun k s hk=>?_)
 simp only [Q3v] at hk;split at hk
 ·rename_i h1;refine ifP (fun h2=>?_) (fun h2=>?_)
  ·rw [Env.c1] at h2
   have h2:s≤65534:=by unfold Q5 at h2;simpa using h2
   rw [if_pos h2] at hk;refine (Qf k52 ?_:Qu Tryz.prog Gl 52 _ _ _)
   cases ha:Q3c s 0 all with
   | some q=>
    simp only [ha] at hk;refine Vr (Q14 ha) ?_;refine ⟨(k,IntKind.wrap .i64 (s+1)),(by rw [Qvt h1 h2];exact hk),Lg _,fun i=>i,?_⟩;refine Qyo [_] rfl ?_ rfl
    repeat' first | exact rN | refine rA ?_ | refine rE rfl ?_
   | none=>
    simp only [ha] at hk;cases hk;refine U6 (Gp ha) ?_;refine ifF (cF (by unfold Q5;simp;omega)) ?_;refine (Qf k48 ?_:Qu Tryz.prog Gl 48 _ _ _);refine Vu 8 rfl rfl ?_;refine U6 (Gn hn) ?_;refine apP (l:=Qcb ids) (Qp8 _ _ _) ?_;refine Vu 7 rfl rfl ?_;refine U6 (Gp ha) ?_;refine apP (l:=Qb4 all) (Qp3 _ _ _ _) ?_;exact ⟨fzT (.cons (.p _) (.cons (.p _) (.cons (.p _) .nil))),Qq3 (Qvt h1 h2) (Ue [_,_] rfl)⟩
  exfalso;rw [Env.c1] at h2;unfold Q5 at h2;rw [if_neg (by simpa using h2)] at hk;cases hk;exact h0 rfl
 cases hk
theorem Qru (hp:Q71 Tryz.prog Gl 45 [.str n] (.bool true)) {ids:List (List UInt8×Int)} {all:List (Int×List UInt8×Bool)} {s0 nx:Int} {N:Nat} (h:J2 c 0 R=some (i,⟨ids,all,[],s0⟩)) (hn:Q0z n 0 ids=none)
  (hl:Q3v all N s0=some (0,nx)):Q2x Tryz.prog Gl 25 R [.str c,.str n] (.tuple [.int .i64 0,.bool false,.int .i64 12]) (R.set i (c,⟨ids,all,[],nx⟩)):=by
 refine Qyz rfl h fun g hg=>?_;refine Qf k25 ?_;refine Xz hp (.cons (.p _) .nil) ?_;refine (Qf k46 ?_:Qu Tryz.prog Gl 46 _ _ _);refine Vr (Ve R g 0 i hg h) ?_;refine U6 (Gn hn) ?_;refine (Qf k47 ?_:Qu Tryz.prog Gl 47 _ _ _);refine Qx 1 ?_;refine ifF (cF (by unfold Q5;rfl)) ?_
 refine lpC (fun _=>lsT) (fun s=>Qgb R g i c ⟨ids,all,[],s⟩) (Q3v all) s0 hl (fun i=>i) (Qyo [] (by rfl) (by repeat' first | exact rN | refine rA ?_ | refine rE rfl ?_) rfl) (fun k s hk=>?_)
 simp only [Q3v] at hk;split at hk
 ·rename_i h1;refine ifP (fun h2=>?_) (fun h2=>?_)
  ·rw [Env.c1] at h2
   have h2:s≤65534:=by unfold Q5 at h2;simpa using h2
   rw [if_pos h2] at hk;refine (Qf k52 ?_:Qu Tryz.prog Gl 52 _ _ _)
   cases ha:Q3c s 0 all with
   | some q=>
    simp only [ha] at hk;refine Vr (Q14 ha) ?_;refine ⟨(k,IntKind.wrap .i64 (s+1)),(by rw [Qvt h1 h2];exact hk),Lg _,fun i=>i,?_⟩;refine Qyo [_] rfl ?_ rfl
    repeat' first | exact rN | refine rA ?_ | refine rE rfl ?_
   | none=>
    exfalso;simp only [ha] at hk;simp at hk;omega
  rw [Env.c1] at h2;unfold Q5 at h2;rw [if_neg (by simpa using h2)] at hk;cases hk;refine ifT (cF (by unfold Q5;rfl)) ?_;exact ⟨fzT (.cons (.p _) (.cons (.p _) (.cons (.p _) .nil))),Ue [] rfl⟩
 cases hk
theorem Qou:Q2x Tryz.prog Gl 54 R [.str c,.int .i64 id] (.bool (Q1i R c id)) R:=by
 unfold Q1i
 cases h:J2 c 0 R with
 | none=>exact Qn1 h
 | some q=>
  obtain ⟨i,C⟩:=q;show Q2x _ _ _ _ _ (.bool (match Q3c id 0 C.all with | none=>_ | some (_,v)=>_)) _
  cases ha:Q3c id 0 C.all with
  | none=>exact Qrr h ha
  | some v=>exact Qs5 h ha
theorem Qvi {b:Bool} (hw:WR R) (hp:Q71 Tryz.prog Gl 45 [.str n] (.bool b)) :
  Q2x Tryz.prog Gl 25 R [.str c,.str n] (.tuple [.int .i64 (Qnk b R c n).1.1,.bool (Qnk b R c n).1.2.1,.int .i64 (Qnk b R c n).1.2.2]) (Qnk b R c n).2:=by
 cases b with
 | false=>exact Qv6 hp
 | true=>
  simp only [Qnk,if_true,Qnd,Qtd]
  cases h:J2 c 0 R with
  | none=>exact Qva hp h
  | some q=>
   obtain ⟨i,C⟩:=q;have hwc:=hw _ (Q8c h);simp only [Mn,Qql]
   cases hn:Q0z n 0 C.ids with
   | some q=>simp only [];rw [Q8y h];exact Qve hp h hn
   | none=>
    obtain ⟨ids,all,back,s0⟩:=C;obtain ⟨h1,h2,h3⟩:=hwc
    simp only at h1 h2 h3 hn
    subst h1;obtain ⟨id,nx,hl,_,_,_⟩:=Q9j all 65536 s0 h2 h3 (by omega);simp only [hl]
    by_cases h0:id=0
    ·subst h0;exact Qru hp h hn hl
    simp only [if_neg h0];exact Qv7 hp h hn hl h0
theorem Qvr {b:Bool} (hp:Q71 Tryz.prog Gl 45 [.str n] (.bool b)) :
  Q2x Tryz.prog Gl 27 R [.str c,.str n,.int .i64 id] (.int .i64 (Qqj b R c n id).1) (Qqj b R c n id).2:=by
 cases b with
 | false=>exact Qu5 hp
 | true=>
  simp only [Qqj,if_true]
  by_cases hi:1≤id∧id≤65534
  ·simp only [if_pos hi,Qnd,Qtd]
   cases h:J2 c 0 R with
   | none=>exact Qub hp hi h
   | some q=>
    obtain ⟨i,C⟩:=q;simp only [Mn,Qqf]
    cases ha:Q3c id 0 C.all with
    | some q=>
     obtain ⟨j,v⟩:=q;simp only []
     by_cases hv:v=(n,true)
     ·subst hv;simp only [if_true];rw [Q8y h];exact Qr5 hp hi h ha
     simp only [if_neg hv];rw [Q8y h];exact Qx7 hp hi h ha hv
    | none=>
     cases hn:Q0z n 0 C.ids with
     | some q=>simp only [];rw [Q8y h];exact Qpz hp hi h ha hn
     | none=>exact Qvm hp hi h ha hn
  simp only [if_neg hi];exact Qw1 hp hi
end
end
end Go.Av
