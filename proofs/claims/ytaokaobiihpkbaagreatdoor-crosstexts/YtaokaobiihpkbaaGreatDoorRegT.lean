/- Part of the proof of CrossTexts: for every input the law returns true; no condition. -/
import Derived.Test.YtaokaobiihpkbaaGreatDoorRegS
import Derived.Test.YtaokaobiihpkbaaGreatDoorDrawA
import Derived.Test.YtaokaobiihpkbaaGreatDoorChks
import Derived.Test.YtaokaobiihpkbaaGreatDoorAvTac
import Derived.Test.YtaokaobiihpkbaaGreatDoorAvAbb
set_option linter.all false
namespace Go.Av
noncomputable section
open Go.Proofs
attribute [local irreducible] Q33 Xk Qs Q7i Q68 Q5
set_option maxHeartbeats 1000000
variable {Gl:Nat→Option (List PV)}
section
variable {R:Reg} {c n:List UInt8} {id:Int} {i j:Nat} {C:RCl} {v:List UInt8×Bool}
theorem Qnr (h:Jq c 0 R=none):Q3x Tryz.prog Gl 54 R [.str c,.int .i64 id] (.bool false) R:=by
 refine Qz3 rfl fun g hg=>?_;refine Qe k54 ?_;refine (Qe k42 ?_:Qs Tryz.prog Gl 42 _ _ _);refine Uk (Q1r R g 0 h) ?_;exact ⟨.p _,rfl,rfl⟩
theorem Qtb (h:Jq c 0 R=some (i,C)) (ha:Q4b id 0 C.all=some (j,v)) :
  Q3x Tryz.prog Gl 54 R [.str c,.int .i64 id] (.bool v.2) R:=by
 refine Q2c rfl h fun g hg=>?_;refine Qe k54 ?_;refine (Qe k42 ?_:Qs Tryz.prog Gl 42 _ _ _);refine U4 (Vo R g 0 i hg h) ?_;refine U4 (Q1q ha) ?_;exact ⟨.p _,Uv [] rfl⟩
theorem Qty (h:Jq c 0 R=some (i,C)) (ha:Q4b id 0 C.all=none) :
  Q3x Tryz.prog Gl 54 R [.str c,.int .i64 id] (.bool false) R:=by
 refine Q2c rfl h fun g hg=>?_;refine Qe k54 ?_;refine (Qe k42 ?_:Qs Tryz.prog Gl 42 _ _ _);refine U4 (Vo R g 0 i hg h) ?_;refine Uk (Q0d ha) ?_;exact ⟨.p _,Uv [] rfl⟩
theorem Qx9 (h:Jq c 0 R=none):Q3x Tryz.prog Gl 17 R [.str c,.str n] (.tuple [.int .i64 0,.int .i64 11]) R:=by
 refine Qz3 rfl fun g hg=>?_;refine Qe k17 ?_;refine (Qe k42 ?_:Qs Tryz.prog Gl 42 _ _ _);refine Uk (Q1r R g 0 h) ?_;exact ⟨fzT (.cons (.p _) (.cons (.p _) .nil)),rfl,rfl⟩
theorem Z11 {x:Int} (h:Jq c 0 R=some (i,C)) (hn:Q34 n 0 C.ids=some (j,x)) :
  Q3x Tryz.prog Gl 17 R [.str c,.str n] (.tuple [.int .i64 x,.int .i64 0]) R:=by
 refine Q2c rfl h fun g hg=>?_;refine Qe k17 ?_;refine (Qe k42 ?_:Qs Tryz.prog Gl 42 _ _ _);refine U4 (Vo R g 0 i hg h) ?_;refine U4 (Q57 hn) ?_;exact ⟨fzT (.cons (.p _) (.cons (.p _) .nil)),Uv [] rfl⟩
theorem Z0y (h:Jq c 0 R=some (i,C)) (hn:Q34 n 0 C.ids=none) :
  Q3x Tryz.prog Gl 17 R [.str c,.str n] (.tuple [.int .i64 0,.int .i64 11]) R:=by
 refine Q2c rfl h fun g hg=>?_;refine Qe k17 ?_;refine (Qe k42 ?_:Qs Tryz.prog Gl 42 _ _ _);refine U4 (Vo R g 0 i hg h) ?_;refine Uk (Q08 hn) ?_;exact ⟨fzT (.cons (.p _) (.cons (.p _) .nil)),Uv [] rfl⟩
theorem Qz0:Q3x Tryz.prog Gl 17 R [.str c,.str n] (.tuple [.int .i64 (rID R c n).1,.int .i64 (rID R c n).2]) R:=by
 unfold rID
 cases h:Jq c 0 R with
 | none=>exact Qx9 h
 | some q=>
  obtain ⟨i,C⟩:=q;show Q3x _ _ _ _ _ (.tuple [.int .i64 (match Q34 n 0 C.ids with | none=>_ | some (_,id)=>_:Int×Int).1,.int .i64 (match Q34 n 0 C.ids with | none=>_ | some (_,id)=>_:Int×Int).2]) _
  cases hn:Q34 n 0 C.ids with
  | none=>exact Z0y h hn
  | some v=>exact Z11 h hn
theorem Qwn:Qm4 Tryz.prog Gl 23:=Z14 (Qe k23 ⟨0,1,rfl,rfl,rfl,by decide⟩)
theorem Qx1 (hp:Q7x Tryz.prog Gl 45 [.str n] (.bool false)):Q3x Tryz.prog Gl 25 R [.str c,.str n] (.tuple [.int .i64 0,.bool false,.int .i64 10]) R:=by
 refine Qz3 rfl fun g hg=>?_;refine Qe k25 ?_;refine W1 hp (.cons (.p _) .nil) ?_;exact ⟨fzT (.cons (.p _) (.cons (.p _) (.cons (.p _) .nil))),rfl,rfl⟩
theorem Qwr (hp:Q7x Tryz.prog Gl 45 [.str n] (.bool true)) (h:Jq c 0 R=some (i,C)) (hn:Q34 n 0 C.ids=some (j,id)):Q3x Tryz.prog Gl 25 R [.str c,.str n] (.tuple [.int .i64 id,.bool false,.int .i64 0]) R:=by
 refine Q2c rfl h fun g hg=>?_;refine Qe k25 ?_;refine W1 hp (.cons (.p _) .nil) ?_;refine (Qe k46 ?_:Qs Tryz.prog Gl 46 _ _ _);refine U4 (Vo R g 0 i hg h) ?_;refine U4 (Q57 hn) ?_;exact ⟨fzT (.cons (.p _) (.cons (.p _) (.cons (.p _) .nil))),Uv [] rfl⟩
theorem Qxb (hp:Q7x Tryz.prog Gl 45 [.str n] (.bool true)) (h:Jq c 0 R=none):Q3x Tryz.prog Gl 25 R [.str c,.str n] (.tuple [.int .i64 1,.bool true,.int .i64 0]) (R ++ [(c,⟨[(n,1)],[(1,n,false)],[],2⟩)]):=by
 refine Z7d rfl fun g hg=>?_;refine Qe k25 ?_;refine W1 hp (.cons (.p _) .nil) ?_;refine (Qe k46 ?_:Qs Tryz.prog Gl 46 _ _ _);refine Uk (Q1r R g 0 h) ?_;refine Uk (Q1r R g 0 h) ?_;refine apP (l:=gm R g) rfl ?_;refine Qj5 ?_;refine (Qe k47 ?_:Qs Tryz.prog Gl 47 _ _ _);refine Qy 1 ?_;refine ifF (cF (by unfold Q5;decide)) ?_;refine Qy 1 ?_;refine ifT (cF (by unfold Q5;decide)) ?_;refine (Qe k52 ?_:Qs Tryz.prog Gl 52 _ _ _);refine Qj5 ?_;refine ifF (cF (by unfold Q5;decide)) ?_;refine (Qe k48 ?_:Qs Tryz.prog Gl 48 _ _ _);refine Ji 8 rfl rfl ?_;refine Qj5 ?_;refine Ji 7 rfl rfl ?_;refine Qj5 ?_;exact ⟨fzT (.cons (.p _) (.cons (.p _) (.cons (.p _) .nil))),Qpv (ids := [(n,1)]) (all := [(1,n,false)]) [_,_] rfl⟩
theorem Qw5 (hp:Q7x Tryz.prog Gl 45 [.str n] (.bool false)):Q3x Tryz.prog Gl 27 R [.str c,.str n,.int .i64 id] (.int .i64 10) R:=by
 refine Qz3 rfl fun g hg=>?_;refine Qe k27 ?_;refine W1 hp (.cons (.p _) .nil) ?_;exact ⟨.p _,rfl,rfl⟩
theorem Qx5 (hp:Q7x Tryz.prog Gl 45 [.str n] (.bool true)) (hi:¬ (1≤id∧id≤65534)):Q3x Tryz.prog Gl 27 R [.str c,.str n,.int .i64 id] (.int .i64 2) R:=by
 refine Qz3 rfl fun g hg=>?_;refine Qe k27 ?_;refine W1 hp (.cons (.p _) .nil) ?_;refine ifP (fun h1=>?_) (fun h1=>?_)
 ·exact ⟨.p _,rfl,rfl⟩
 refine ifP (fun h2=>?_) (fun h2=>?_)
 ·exact ⟨.p _,rfl,rfl⟩
 exfalso;rw [Env.c1] at h1 h2;unfold Q5 at h1 h2;simp at h1 h2;omega
theorem Qwi (hp:Q7x Tryz.prog Gl 45 [.str n] (.bool true)) (hi:1≤id∧id≤65534) (h:Jq c 0 R=none):Q3x Tryz.prog Gl 27 R [.str c,.str n,.int .i64 id] (.int .i64 0) (R ++ [(c,⟨[(n,id)],[(id,n,true)],[],1⟩)]):=by
 refine Z7d rfl fun g hg=>?_;refine Qe k27 ?_;refine W1 hp (.cons (.p _) .nil) ?_;refine ifF (cF (by unfold Q5;simp;omega)) ?_;refine ifF (cF (by unfold Q5;simp;omega)) ?_;refine (Qe k42 ?_:Qs Tryz.prog Gl 42 _ _ _);refine Uk (Q1r R g 0 h) ?_;refine Qlv 5 rfl ?_
 repeat' first
  | exact trivial
  | refine Uk (Q1r R g 0 h) ?_
  | refine apP (l:=gm R g) rfl ?_
  | refine Qj5 ?_
  | refine Ji 8 rfl rfl ?_
  | refine Ji 7 rfl rfl ?_
  | refine (Qe k46 ?_:Qs Tryz.prog Gl 46 _ _ _)
  | refine (Qe k48 ?_:Qs Tryz.prog Gl 48 _ _ _)
  | exact ⟨.p _,Qht (ids := [(n,id)]) (all := [(id,n,true)]) 3 (by decide) rfl rfl rfl rfl rfl⟩
  | refine ⟨?_,?_⟩
theorem Qti (hp:Q7x Tryz.prog Gl 45 [.str n] (.bool true)) (hi:1≤id∧id≤65534) (h:Jq c 0 R=some (i,C)) (ha:Q4b id 0 C.all=some (j,n,true)) :
  Q3x Tryz.prog Gl 27 R [.str c,.str n,.int .i64 id] (.int .i64 0) R:=by
 refine Q2c rfl h fun g hg=>?_;refine Qe k27 ?_;refine W1 hp (.cons (.p _) .nil) ?_;refine ifF (cF (by unfold Q5;simp;omega)) ?_;refine ifF (cF (by unfold Q5;simp;omega)) ?_;refine (Qe k42 ?_:Qs Tryz.prog Gl 42 _ _ _);refine U4 (Vo R g 0 i hg h) ?_;refine U4 (Q1q ha) ?_;refine ifT (by simp [ifB]) ?_;exact ⟨.p _,Uv [_,_] rfl⟩
theorem Qxr (hp:Q7x Tryz.prog Gl 45 [.str n] (.bool true)) (hi:1≤id∧id≤65534) (h:Jq c 0 R=some (i,C)) (ha:Q4b id 0 C.all=some (j,v)) (hv:v≠(n,true)) :
  Q3x Tryz.prog Gl 27 R [.str c,.str n,.int .i64 id] (.int .i64 16) R:=by
 refine Q2c rfl h fun g hg=>?_;refine Qe k27 ?_;refine W1 hp (.cons (.p _) .nil) ?_;refine ifF (cF (by unfold Q5;simp;omega)) ?_;refine ifF (cF (by unfold Q5;simp;omega)) ?_;refine (Qe k42 ?_:Qs Tryz.prog Gl 42 _ _ _);refine U4 (Vo R g 0 i hg h) ?_;refine U4 (Q1q ha) ?_;refine ifF (by obtain ⟨a,b⟩:=v;by_cases e:a=n<;>cases b<;>simp_all [ifB]) ?_
 cases hn:Q34 n 0 C.ids with
 | none=>
  refine Uk (Q08 hn) ?_;refine (Qe k52 ?_:Qs Tryz.prog Gl 52 _ _ _);refine U4 (Q1q ha) ?_;exact ⟨.p _,Uv [_,_,_] rfl⟩
 | some q=>
  refine U4 (Q57 hn) ?_;exact ⟨.p _,Uv [_,_] rfl⟩
theorem Qp0 (hp:Q7x Tryz.prog Gl 45 [.str n] (.bool true)) (hi:1≤id∧id≤65534) (h:Jq c 0 R=some (i,C)) (ha:Q4b id 0 C.all=none) {x:Int} (hn:Q34 n 0 C.ids=some (j,x)) :
  Q3x Tryz.prog Gl 27 R [.str c,.str n,.int .i64 id] (.int .i64 16) R:=by
 refine Q2c rfl h fun g hg=>?_;refine Qe k27 ?_;refine W1 hp (.cons (.p _) .nil) ?_;refine ifF (cF (by unfold Q5;simp;omega)) ?_;refine ifF (cF (by unfold Q5;simp;omega)) ?_;refine (Qe k42 ?_:Qs Tryz.prog Gl 42 _ _ _);refine U4 (Vo R g 0 i hg h) ?_;refine Uk (Q0d ha) ?_;refine U4 (Q57 hn) ?_;exact ⟨.p _,Uv [_,_] rfl⟩
theorem Qw1 (hp:Q7x Tryz.prog Gl 45 [.str n] (.bool true)) (hi:1≤id∧id≤65534) (h:Jq c 0 R=some (i,C)) (ha:Q4b id 0 C.all=none) (hn:Q34 n 0 C.ids=none) :
  Q3x Tryz.prog Gl 27 R [.str c,.str n,.int .i64 id] (.int .i64 0) (R.set i (c,⟨C.ids ++ [(n,id)],C.all ++ [(id,n,true)],C.back,C.next⟩)):=by
 refine Z06 rfl h fun g hg=>?_;refine Qe k27 ?_;refine W1 hp (.cons (.p _) .nil) ?_;refine ifF (cF (by unfold Q5;simp;omega)) ?_;refine ifF (cF (by unfold Q5;simp;omega)) ?_;refine (Qe k42 ?_:Qs Tryz.prog Gl 42 _ _ _);refine U4 (Vo R g 0 i hg h) ?_;refine Uk (Q0d ha) ?_;refine Uk (Q08 hn) ?_;refine (Qe k52 ?_:Qs Tryz.prog Gl 52 _ _ _);refine Uk (Q0d ha) ?_;refine Qlv 5 rfl ?_
 repeat' first
  | exact trivial
  | refine U4 (Vo R g 0 i hg h) ?_
  | refine Uk (Q08 hn) ?_
  | refine Uk (Q0d ha) ?_
  | refine apP (l:=Qca C.ids) (Qp8 _ _ _) ?_
  | refine apP (l:=Qdf C.all) (Qpj _ _ _ _) ?_
  | refine Ji 8 rfl rfl ?_
  | refine Ji 7 rfl rfl ?_
  | refine (Qe k46 ?_:Qs Tryz.prog Gl 46 _ _ _)
  | refine (Qe k48 ?_:Qs Tryz.prog Gl 48 _ _ _)
  | exact ⟨.p _,Uv [_,_,_,_] rfl⟩
  | exact ⟨.p _,Uv [_,_,_] rfl⟩
  | refine ⟨?_,?_⟩
def lsT:List AV := .ptr 2 0 :: .any :: .p (.int .i64 0)::a16 (a16 (a8 (a4 (a2 (.any :: [])))))
theorem Qwx {s:Int} (h1:1≤s) (h2:s≤65534):IntKind.wrap .i64 (s+1)=s+1:=by
 rw [IntKind.wrap_i64];omega
theorem Qp5 {g:List (Nat×Nat)} {a b} {d:List Int} {w x:Int} {H':List AObj} (e:w=x) (h:Qeo R g i c ⟨a,b,d,w⟩ H'):Qeo R g i c ⟨a,b,d,x⟩ H':=e▸h
theorem Qvu (hp:Q7x Tryz.prog Gl 45 [.str n] (.bool true)) {ids:List (List UInt8×Int)} {all:List (Int×List UInt8×Bool)} {s0 nx:Int} {N:Nat} (h:Jq c 0 R=some (i,⟨ids,all,[],s0⟩)) (hn:Q34 n 0 ids=none)
  (hl:Q7q all N s0=some (id,nx)) (h0:id≠0):Q3x Tryz.prog Gl 25 R [.str c,.str n] (.tuple [.int .i64 id,.bool true,.int .i64 0]) (R.set i (c,⟨ids ++ [(n,id)],all ++ [(id,n,false)],[],nx⟩)):=by
 refine Z06 rfl h fun g hg=>?_;refine Qe k25 ?_;refine W1 hp (.cons (.p _) .nil) ?_;refine (Qe k46 ?_:Qs Tryz.prog Gl 46 _ _ _);refine U4 (Vo R g 0 i hg h) ?_;refine Uk (Q08 hn) ?_;refine (Qe k47 ?_:Qs Tryz.prog Gl 47 _ _ _);refine Qy 1 ?_;refine ifF (cF (by unfold Q5;rfl)) ?_
 refine lpC (fun _=>lsT) (fun s=>Qha R g i c ⟨ids,all,[],s⟩) (Q7q all) s0 hl (fun i=>i) (Z0c [] (by rfl) (by repeat' first | exact rN | refine rA ?_ | refine rE rfl ?_) rfl) (fun k s hk=>?_)
 simp only [Q7q] at hk;split at hk
 ·rename_i h1;refine ifP (fun h2=>?_) (fun h2=>?_)
  ·rw [Env.c1] at h2
   have h2:s≤65534:=by unfold Q5 at h2;simpa using h2
   rw [Af h2] at hk;refine (Qe k52 ?_:Qs Tryz.prog Gl 52 _ _ _)
   cases ha:Q4b s 0 all with
   | some q=>
    simp only [ha] at hk;refine U4 (Q1q ha) ?_;refine ⟨(k,IntKind.wrap .i64 (s+1)),(by rw [Qwx h1 h2];exact hk),Lg _,fun i=>i,?_⟩;refine Z0c [_] rfl ?_ rfl
    repeat' first | exact rN | refine rA ?_ | refine rE rfl ?_
   | none=>
    simp only [ha] at hk;cases hk;refine Uk (Q0d ha) ?_;refine ifF (cF (by unfold Q5;simp;omega)) ?_;refine (Qe k48 ?_:Qs Tryz.prog Gl 48 _ _ _);refine Ji 8 rfl rfl ?_;refine Uk (Q08 hn) ?_;refine apP (l:=Qca ids) (Qp8 _ _ _) ?_;refine Ji 7 rfl rfl ?_;refine Uk (Q0d ha) ?_;refine apP (l:=Qdf all) (Qpj _ _ _ _) ?_;exact ⟨fzT (.cons (.p _) (.cons (.p _) (.cons (.p _) .nil))),Qp5 (Qwx h1 h2) (Uv [_,_] rfl)⟩
  exfalso;rw [Env.c1] at h2;unfold Q5 at h2;rw [Ae (by simpa using h2)] at hk;cases hk;exact h0 rfl
 cases hk
theorem Qtg (hp:Q7x Tryz.prog Gl 45 [.str n] (.bool true)) {ids:List (List UInt8×Int)} {all:List (Int×List UInt8×Bool)} {s0 nx:Int} {N:Nat} (h:Jq c 0 R=some (i,⟨ids,all,[],s0⟩)) (hn:Q34 n 0 ids=none)
  (hl:Q7q all N s0=some (0,nx)):Q3x Tryz.prog Gl 25 R [.str c,.str n] (.tuple [.int .i64 0,.bool false,.int .i64 12]) (R.set i (c,⟨ids,all,[],nx⟩)):=by
 refine Z06 rfl h fun g hg=>?_;refine Qe k25 ?_;refine W1 hp (.cons (.p _) .nil) ?_;refine (Qe k46 ?_:Qs Tryz.prog Gl 46 _ _ _);refine U4 (Vo R g 0 i hg h) ?_;refine Uk (Q08 hn) ?_;refine (Qe k47 ?_:Qs Tryz.prog Gl 47 _ _ _);refine Qy 1 ?_;refine ifF (cF (by unfold Q5;rfl)) ?_
 refine lpC (fun _=>lsT) (fun s=>Qha R g i c ⟨ids,all,[],s⟩) (Q7q all) s0 hl (fun i=>i) (Z0c [] (by rfl) (by repeat' first | exact rN | refine rA ?_ | refine rE rfl ?_) rfl) (fun k s hk=>?_)
 simp only [Q7q] at hk;split at hk
 ·rename_i h1;refine ifP (fun h2=>?_) (fun h2=>?_)
  ·rw [Env.c1] at h2
   have h2:s≤65534:=by unfold Q5 at h2;simpa using h2
   rw [Af h2] at hk;refine (Qe k52 ?_:Qs Tryz.prog Gl 52 _ _ _)
   cases ha:Q4b s 0 all with
   | some q=>
    simp only [ha] at hk;refine U4 (Q1q ha) ?_;refine ⟨(k,IntKind.wrap .i64 (s+1)),(by rw [Qwx h1 h2];exact hk),Lg _,fun i=>i,?_⟩;refine Z0c [_] rfl ?_ rfl
    repeat' first | exact rN | refine rA ?_ | refine rE rfl ?_
   | none=>
    exfalso;simp only [ha] at hk;simp at hk;omega
  rw [Env.c1] at h2;unfold Q5 at h2;rw [Ae (by simpa using h2)] at hk;cases hk;refine ifT (cF (by unfold Q5;rfl)) ?_;exact ⟨fzT (.cons (.p _) (.cons (.p _) (.cons (.p _) .nil))),Uv [] rfl⟩
 cases hk
theorem Qpd:Q3x Tryz.prog Gl 54 R [.str c,.int .i64 id] (.bool (Q9b R c id)) R:=by
 unfold Q9b
 cases h:Jq c 0 R with
 | none=>exact Qnr h
 | some q=>
  obtain ⟨i,C⟩:=q;show Q3x _ _ _ _ _ (.bool (match Q4b id 0 C.all with | none=>_ | some (_,v)=>_)) _
  cases ha:Q4b id 0 C.all with
  | none=>exact Qty h ha
  | some v=>exact Qtb h ha
theorem Qvi {b:Bool} (hw:WR R) (hp:Q7x Tryz.prog Gl 45 [.str n] (.bool b)) :
  Q3x Tryz.prog Gl 25 R [.str c,.str n] (.tuple [.int .i64 (Qq5 b R c n).1.1,.bool (Qq5 b R c n).1.2.1,.int .i64 (Qq5 b R c n).1.2.2]) (Qq5 b R c n).2:=by
 cases b with
 | false=>exact Qx1 hp
 | true=>
  simp only [Qq5,Ak,Qu9,Qxj]
  cases h:Jq c 0 R with
  | none=>exact Qxb hp h
  | some q=>
   obtain ⟨i,C⟩:=q;have hwc:=hw _ (Qim h);simp only [Mo,Qt1]
   cases hn:Q34 n 0 C.ids with
   | some q=>simp only [];rw [Q9f h];exact Qwr hp h hn
   | none=>
    obtain ⟨ids,all,back,s0⟩:=C;obtain ⟨h1,h2,h3⟩:=hwc
    simp only at h1 h2 h3 hn
    subst h1;obtain ⟨id,nx,hl,_,_,_⟩:=Q9t all 65536 s0 h2 h3 (by omega);simp only [hl]
    by_cases h0:id=0
    ·subst h0;exact Qtg hp h hn hl
    simp only [Ae h0];exact Qvu hp h hn hl h0
theorem Qv8 {b:Bool} (hp:Q7x Tryz.prog Gl 45 [.str n] (.bool b)) :
  Q3x Tryz.prog Gl 27 R [.str c,.str n,.int .i64 id] (.int .i64 (Qsp b R c n id).1) (Qsp b R c n id).2:=by
 cases b with
 | false=>exact Qw5 hp
 | true=>
  simp only [Qsp,Ak]
  by_cases hi:1≤id∧id≤65534
  ·simp only [Af hi,Qu9,Qxj]
   cases h:Jq c 0 R with
   | none=>exact Qwi hp hi h
   | some q=>
    obtain ⟨i,C⟩:=q;simp only [Mo,Qtk]
    cases ha:Q4b id 0 C.all with
    | some q=>
     obtain ⟨j,v⟩:=q;simp only []
     by_cases hv:v=(n,true)
     ·subst hv;simp only [Ak];rw [Q9f h];exact Qti hp hi h ha
     simp only [Ae hv];rw [Q9f h];exact Qxr hp hi h ha hv
    | none=>
     cases hn:Q34 n 0 C.ids with
     | some q=>simp only [];rw [Q9f h];exact Qp0 hp hi h ha hn
     | none=>exact Qw1 hp hi h ha hn
  simp only [Ae hi];exact Qx5 hp hi
end
end
end Go.Av
