/- Part of the proof of CrossKeeps: for every input the law returns true; no condition. -/
import Derived.Test.YtaokaobiihpkbaaGreatDoorRegS
import Derived.Test.YtaokaobiihpkbaaGreatDoorDrawA
import Derived.Test.YtaokaobiihpkbaaGreatDoorChks
import Derived.Test.YtaokaobiihpkbaaGreatDoorAvTac
import Derived.Test.YtaokaobiihpkbaaGreatDoorAvAbb
set_option linter.all false
namespace Go.Av
noncomputable section
open Go.Proofs
attribute [local irreducible] Q40 Xu Qw Q8g Q7d Q4
set_option maxHeartbeats 1000000
variable {Gl:Nat→Option (List PV)}
section
variable {R:Reg} {c n:List UInt8} {id:Int} {i j:Nat} {C:RCl} {v:List UInt8×Bool}
theorem Qog (h:Gj c 0 R=none):Q4p Tryz.prog Gl 54 R [.str c,.int .i64 id] (.bool false) R:=by
 refine Qzx rfl fun g hg=>?_;refine Qa k54 ?_;refine (Qa k42 ?_:Qw Tryz.prog Gl 42 _ _ _);refine J5 (Q28 R g 0 h) ?_;exact ⟨.p _,rfl,rfl⟩
theorem Qt7 (h:Gj c 0 R=some (i,C)) (ha:Q4t id 0 C.all=some (j,v)) :
  Q4p Tryz.prog Gl 54 R [.str c,.int .i64 id] (.bool v.2) R:=by
 refine Q2o rfl h fun g hg=>?_;refine Qa k54 ?_;refine (Qa k42 ?_:Qw Tryz.prog Gl 42 _ _ _);refine Ur (Ua R g 0 i hg h) ?_;refine Ur (Q26 ha) ?_;exact ⟨.p _,Jc [] rfl⟩
theorem Quw (h:Gj c 0 R=some (i,C)) (ha:Q4t id 0 C.all=none) :
  Q4p Tryz.prog Gl 54 R [.str c,.int .i64 id] (.bool false) R:=by
 refine Q2o rfl h fun g hg=>?_;refine Qa k54 ?_;refine (Qa k42 ?_:Qw Tryz.prog Gl 42 _ _ _);refine Ur (Ua R g 0 i hg h) ?_;refine J5 (Q0y ha) ?_;exact ⟨.p _,Jc [] rfl⟩
theorem Qyk (h:Gj c 0 R=none):Q4p Tryz.prog Gl 17 R [.str c,.str n] (.tuple [.int .i64 0,.int .i64 11]) R:=by
 refine Qzx rfl fun g hg=>?_;refine Qa k17 ?_;refine (Qa k42 ?_:Qw Tryz.prog Gl 42 _ _ _);refine J5 (Q28 R g 0 h) ?_;exact ⟨fzT (.cons (.p _) (.cons (.p _) .nil)),rfl,rfl⟩
theorem Z22 {x:Int} (h:Gj c 0 R=some (i,C)) (hn:Q43 n 0 C.ids=some (j,x)) :
  Q4p Tryz.prog Gl 17 R [.str c,.str n] (.tuple [.int .i64 x,.int .i64 0]) R:=by
 refine Q2o rfl h fun g hg=>?_;refine Qa k17 ?_;refine (Qa k42 ?_:Qw Tryz.prog Gl 42 _ _ _);refine Ur (Ua R g 0 i hg h) ?_;refine Ur (Q64 hn) ?_;exact ⟨fzT (.cons (.p _) (.cons (.p _) .nil)),Jc [] rfl⟩
theorem Z28 (h:Gj c 0 R=some (i,C)) (hn:Q43 n 0 C.ids=none) :
  Q4p Tryz.prog Gl 17 R [.str c,.str n] (.tuple [.int .i64 0,.int .i64 11]) R:=by
 refine Q2o rfl h fun g hg=>?_;refine Qa k17 ?_;refine (Qa k42 ?_:Qw Tryz.prog Gl 42 _ _ _);refine Ur (Ua R g 0 i hg h) ?_;refine J5 (Q11 hn) ?_;exact ⟨fzT (.cons (.p _) (.cons (.p _) .nil)),Jc [] rfl⟩
theorem Z0d:Q4p Tryz.prog Gl 17 R [.str c,.str n] (.tuple [.int .i64 (rID R c n).1,.int .i64 (rID R c n).2]) R:=by
 unfold rID
 cases h:Gj c 0 R with
 | none=>exact Qyk h
 | some q=>
  obtain ⟨i,C⟩:=q;show Q4p _ _ _ _ _ (.tuple [.int .i64 (match Q43 n 0 C.ids with | none=>_ | some (_,id)=>_:Int×Int).1,.int .i64 (match Q43 n 0 C.ids with | none=>_ | some (_,id)=>_:Int×Int).2]) _
  cases hn:Q43 n 0 C.ids with
  | none=>exact Z28 h hn
  | some v=>exact Z22 h hn
theorem Qw8:Qno Tryz.prog Gl 23:=Z1w (Qa k23 ⟨0,1,rfl,rfl,rfl,by decide⟩)
theorem Qwl (hp:Q8t Tryz.prog Gl 45 [.str n] (.bool false)):Q4p Tryz.prog Gl 25 R [.str c,.str n] (.tuple [.int .i64 0,.bool false,.int .i64 10]) R:=by
 refine Qzx rfl fun g hg=>?_;refine Qa k25 ?_;refine Wl hp (.cons (.p _) .nil) ?_;exact ⟨fzT (.cons (.p _) (.cons (.p _) (.cons (.p _) .nil))),rfl,rfl⟩
theorem Qx4 (hp:Q8t Tryz.prog Gl 45 [.str n] (.bool true)) (h:Gj c 0 R=some (i,C)) (hn:Q43 n 0 C.ids=some (j,id)):Q4p Tryz.prog Gl 25 R [.str c,.str n] (.tuple [.int .i64 id,.bool false,.int .i64 0]) R:=by
 refine Q2o rfl h fun g hg=>?_;refine Qa k25 ?_;refine Wl hp (.cons (.p _) .nil) ?_;refine (Qa k46 ?_:Qw Tryz.prog Gl 46 _ _ _);refine Ur (Ua R g 0 i hg h) ?_;refine Ur (Q64 hn) ?_;exact ⟨fzT (.cons (.p _) (.cons (.p _) (.cons (.p _) .nil))),Jc [] rfl⟩
theorem Qx7 (hp:Q8t Tryz.prog Gl 45 [.str n] (.bool true)) (h:Gj c 0 R=none):Q4p Tryz.prog Gl 25 R [.str c,.str n] (.tuple [.int .i64 1,.bool true,.int .i64 0]) (R ++ [(c,⟨[(n,1)],[(1,n,false)],[],2⟩)]):=by
 refine Z7w rfl fun g hg=>?_;refine Qa k25 ?_;refine Wl hp (.cons (.p _) .nil) ?_;refine (Qa k46 ?_:Qw Tryz.prog Gl 46 _ _ _);refine J5 (Q28 R g 0 h) ?_;refine J5 (Q28 R g 0 h) ?_;refine apP (l:=gm R g) rfl ?_;refine Qjg ?_;refine (Qa k47 ?_:Qw Tryz.prog Gl 47 _ _ _);refine Z1 1 ?_;refine ifF (cF (by unfold Q4;decide)) ?_;refine Z1 1 ?_;refine ifT (cF (by unfold Q4;decide)) ?_;refine (Qa k52 ?_:Qw Tryz.prog Gl 52 _ _ _);refine Qjg ?_;refine ifF (cF (by unfold Q4;decide)) ?_;refine (Qa k48 ?_:Qw Tryz.prog Gl 48 _ _ _);refine G8 8 rfl rfl ?_;refine Qjg ?_;refine G8 7 rfl rfl ?_;refine Qjg ?_;exact ⟨fzT (.cons (.p _) (.cons (.p _) (.cons (.p _) .nil))),Qsl (ids := [(n,1)]) (all := [(1,n,false)]) [_,_] rfl⟩
theorem Qw6 (hp:Q8t Tryz.prog Gl 45 [.str n] (.bool false)):Q4p Tryz.prog Gl 27 R [.str c,.str n,.int .i64 id] (.int .i64 10) R:=by
 refine Qzx rfl fun g hg=>?_;refine Qa k27 ?_;refine Wl hp (.cons (.p _) .nil) ?_;exact ⟨.p _,rfl,rfl⟩
theorem Qx3 (hp:Q8t Tryz.prog Gl 45 [.str n] (.bool true)) (hi:¬ (1≤id∧id≤65534)):Q4p Tryz.prog Gl 27 R [.str c,.str n,.int .i64 id] (.int .i64 2) R:=by
 refine Qzx rfl fun g hg=>?_;refine Qa k27 ?_;refine Wl hp (.cons (.p _) .nil) ?_;refine ifP (fun h1=>?_) (fun h1=>?_)
 ·exact ⟨.p _,rfl,rfl⟩
 refine ifP (fun h2=>?_) (fun h2=>?_)
 ·exact ⟨.p _,rfl,rfl⟩
 exfalso;rw [Env.c1] at h1 h2;unfold Q4 at h1 h2;simp at h1 h2;omega
theorem Qy3 (hp:Q8t Tryz.prog Gl 45 [.str n] (.bool true)) (hi:1≤id∧id≤65534) (h:Gj c 0 R=none):Q4p Tryz.prog Gl 27 R [.str c,.str n,.int .i64 id] (.int .i64 0) (R ++ [(c,⟨[(n,id)],[(id,n,true)],[],1⟩)]):=by
 refine Z7w rfl fun g hg=>?_;refine Qa k27 ?_;refine Wl hp (.cons (.p _) .nil) ?_;refine ifF (cF (by unfold Q4;simp;omega)) ?_;refine ifF (cF (by unfold Q4;simp;omega)) ?_;refine (Qa k42 ?_:Qw Tryz.prog Gl 42 _ _ _);refine J5 (Q28 R g 0 h) ?_;refine Qml 5 rfl ?_
 repeat' first
  | exact trivial
  | refine J5 (Q28 R g 0 h) ?_
  | refine apP (l:=gm R g) rfl ?_
  | refine Qjg ?_
  | refine G8 8 rfl rfl ?_
  | refine G8 7 rfl rfl ?_
  | refine (Qa k46 ?_:Qw Tryz.prog Gl 46 _ _ _)
  | refine (Qa k48 ?_:Qw Tryz.prog Gl 48 _ _ _)
  | exact ⟨.p _,Qis (ids := [(n,id)]) (all := [(id,n,true)]) 3 (by decide) rfl rfl rfl rfl rfl⟩
  | refine ⟨?_,?_⟩
theorem Qss (hp:Q8t Tryz.prog Gl 45 [.str n] (.bool true)) (hi:1≤id∧id≤65534) (h:Gj c 0 R=some (i,C)) (ha:Q4t id 0 C.all=some (j,n,true)) :
  Q4p Tryz.prog Gl 27 R [.str c,.str n,.int .i64 id] (.int .i64 0) R:=by
 refine Q2o rfl h fun g hg=>?_;refine Qa k27 ?_;refine Wl hp (.cons (.p _) .nil) ?_;refine ifF (cF (by unfold Q4;simp;omega)) ?_;refine ifF (cF (by unfold Q4;simp;omega)) ?_;refine (Qa k42 ?_:Qw Tryz.prog Gl 42 _ _ _);refine Ur (Ua R g 0 i hg h) ?_;refine Ur (Q26 ha) ?_;refine ifT (by simp [ifB]) ?_;exact ⟨.p _,Jc [_,_] rfl⟩
theorem Qz6 (hp:Q8t Tryz.prog Gl 45 [.str n] (.bool true)) (hi:1≤id∧id≤65534) (h:Gj c 0 R=some (i,C)) (ha:Q4t id 0 C.all=some (j,v)) (hv:v≠(n,true)) :
  Q4p Tryz.prog Gl 27 R [.str c,.str n,.int .i64 id] (.int .i64 16) R:=by
 refine Q2o rfl h fun g hg=>?_;refine Qa k27 ?_;refine Wl hp (.cons (.p _) .nil) ?_;refine ifF (cF (by unfold Q4;simp;omega)) ?_;refine ifF (cF (by unfold Q4;simp;omega)) ?_;refine (Qa k42 ?_:Qw Tryz.prog Gl 42 _ _ _);refine Ur (Ua R g 0 i hg h) ?_;refine Ur (Q26 ha) ?_;refine ifF (by obtain ⟨a,b⟩:=v;by_cases e:a=n<;>cases b<;>simp_all [ifB]) ?_
 cases hn:Q43 n 0 C.ids with
 | none=>
  refine J5 (Q11 hn) ?_;refine (Qa k52 ?_:Qw Tryz.prog Gl 52 _ _ _);refine Ur (Q26 ha) ?_;exact ⟨.p _,Jc [_,_,_] rfl⟩
 | some q=>
  refine Ur (Q64 hn) ?_;exact ⟨.p _,Jc [_,_] rfl⟩
theorem Qre (hp:Q8t Tryz.prog Gl 45 [.str n] (.bool true)) (hi:1≤id∧id≤65534) (h:Gj c 0 R=some (i,C)) (ha:Q4t id 0 C.all=none) {x:Int} (hn:Q43 n 0 C.ids=some (j,x)) :
  Q4p Tryz.prog Gl 27 R [.str c,.str n,.int .i64 id] (.int .i64 16) R:=by
 refine Q2o rfl h fun g hg=>?_;refine Qa k27 ?_;refine Wl hp (.cons (.p _) .nil) ?_;refine ifF (cF (by unfold Q4;simp;omega)) ?_;refine ifF (cF (by unfold Q4;simp;omega)) ?_;refine (Qa k42 ?_:Qw Tryz.prog Gl 42 _ _ _);refine Ur (Ua R g 0 i hg h) ?_;refine J5 (Q0y ha) ?_;refine Ur (Q64 hn) ?_;exact ⟨.p _,Jc [_,_] rfl⟩
theorem Qwf (hp:Q8t Tryz.prog Gl 45 [.str n] (.bool true)) (hi:1≤id∧id≤65534) (h:Gj c 0 R=some (i,C)) (ha:Q4t id 0 C.all=none) (hn:Q43 n 0 C.ids=none) :
  Q4p Tryz.prog Gl 27 R [.str c,.str n,.int .i64 id] (.int .i64 0) (R.set i (c,⟨C.ids ++ [(n,id)],C.all ++ [(id,n,true)],C.back,C.next⟩)):=by
 refine Z1n rfl h fun g hg=>?_;refine Qa k27 ?_;refine Wl hp (.cons (.p _) .nil) ?_;refine ifF (cF (by unfold Q4;simp;omega)) ?_;refine ifF (cF (by unfold Q4;simp;omega)) ?_;refine (Qa k42 ?_:Qw Tryz.prog Gl 42 _ _ _);refine Ur (Ua R g 0 i hg h) ?_;refine J5 (Q0y ha) ?_;refine J5 (Q11 hn) ?_;refine (Qa k52 ?_:Qw Tryz.prog Gl 52 _ _ _);refine J5 (Q0y ha) ?_;refine Qml 5 rfl ?_
 repeat' first
  | exact trivial
  | refine Ur (Ua R g 0 i hg h) ?_
  | refine J5 (Q11 hn) ?_
  | refine J5 (Q0y ha) ?_
  | refine apP (l:=Qd8 C.ids) (Qrq _ _ _) ?_
  | refine apP (l:=Qdq C.all) (Qq7 _ _ _ _) ?_
  | refine G8 8 rfl rfl ?_
  | refine G8 7 rfl rfl ?_
  | refine (Qa k46 ?_:Qw Tryz.prog Gl 46 _ _ _)
  | refine (Qa k48 ?_:Qw Tryz.prog Gl 48 _ _ _)
  | exact ⟨.p _,Jc [_,_,_,_] rfl⟩
  | exact ⟨.p _,Jc [_,_,_] rfl⟩
  | refine ⟨?_,?_⟩
def lsT:List AV := .ptr 2 0 :: .any :: .p (.int .i64 0)::a16 (a16 (a8 (a4 (a2 (.any :: [])))))
theorem Qws {s:Int} (h1:1≤s) (h2:s≤65534):IntKind.wrap .i64 (s+1)=s+1:=by
 rw [IntKind.wrap_i64];omega
theorem Qqb {g:List (Nat×Nat)} {a b} {d:List Int} {w x:Int} {H':List AObj} (e:w=x) (h:Qg1 R g i c ⟨a,b,d,w⟩ H'):Qg1 R g i c ⟨a,b,d,x⟩ H':=e▸h
theorem Qxf (hp:Q8t Tryz.prog Gl 45 [.str n] (.bool true)) {ids:List (List UInt8×Int)} {all:List (Int×List UInt8×Bool)} {s0 nx:Int} {N:Nat} (h:Gj c 0 R=some (i,⟨ids,all,[],s0⟩)) (hn:Q43 n 0 ids=none)
  (hl:Q8l all N s0=some (id,nx)) (h0:id≠0):Q4p Tryz.prog Gl 25 R [.str c,.str n] (.tuple [.int .i64 id,.bool true,.int .i64 0]) (R.set i (c,⟨ids ++ [(n,id)],all ++ [(id,n,false)],[],nx⟩)):=by
 refine Z1n rfl h fun g hg=>?_;refine Qa k25 ?_;refine Wl hp (.cons (.p _) .nil) ?_;refine (Qa k46 ?_:Qw Tryz.prog Gl 46 _ _ _);refine Ur (Ua R g 0 i hg h) ?_;refine J5 (Q11 hn) ?_;refine (Qa k47 ?_:Qw Tryz.prog Gl 47 _ _ _);refine Z1 1 ?_;refine ifF (cF (by unfold Q4;rfl)) ?_
 refine lpC (fun _=>lsT) (fun s=>Qi0 R g i c ⟨ids,all,[],s⟩) (Q8l all) s0 hl (fun i=>i) (Z1d [] (by rfl) (by repeat' first | exact rN | refine rA ?_ | refine rE rfl ?_) rfl) (fun k s hk=>?_)
 simp only [Q8l] at hk;split at hk
 ·rename_i h1;refine ifP (fun h2=>?_) (fun h2=>?_)
  ·rw [Env.c1] at h2
   have h2:s≤65534:=by unfold Q4 at h2;simpa using h2
   rw [Af h2] at hk;refine (Qa k52 ?_:Qw Tryz.prog Gl 52 _ _ _)
   cases ha:Q4t s 0 all with
   | some q=>
    simp only [ha] at hk;refine Ur (Q26 ha) ?_;refine ⟨(k,IntKind.wrap .i64 (s+1)),(by rw [Qws h1 h2];exact hk),Lf _,fun i=>i,?_⟩;refine Z1d [_] rfl ?_ rfl
    repeat' first | exact rN | refine rA ?_ | refine rE rfl ?_
   | none=>
    simp only [ha] at hk;cases hk;refine J5 (Q0y ha) ?_;refine ifF (cF (by unfold Q4;simp;omega)) ?_;refine (Qa k48 ?_:Qw Tryz.prog Gl 48 _ _ _);refine G8 8 rfl rfl ?_;refine J5 (Q11 hn) ?_;refine apP (l:=Qd8 ids) (Qrq _ _ _) ?_;refine G8 7 rfl rfl ?_;refine J5 (Q0y ha) ?_;refine apP (l:=Qdq all) (Qq7 _ _ _ _) ?_;exact ⟨fzT (.cons (.p _) (.cons (.p _) (.cons (.p _) .nil))),Qqb (Qws h1 h2) (Jc [_,_] rfl)⟩
  exfalso;rw [Env.c1] at h2;unfold Q4 at h2;rw [Ae (by simpa using h2)] at hk;cases hk;exact h0 rfl
 cases hk
theorem Qtl (hp:Q8t Tryz.prog Gl 45 [.str n] (.bool true)) {ids:List (List UInt8×Int)} {all:List (Int×List UInt8×Bool)} {s0 nx:Int} {N:Nat} (h:Gj c 0 R=some (i,⟨ids,all,[],s0⟩)) (hn:Q43 n 0 ids=none)
  (hl:Q8l all N s0=some (0,nx)):Q4p Tryz.prog Gl 25 R [.str c,.str n] (.tuple [.int .i64 0,.bool false,.int .i64 12]) (R.set i (c,⟨ids,all,[],nx⟩)):=by
 refine Z1n rfl h fun g hg=>?_;refine Qa k25 ?_;refine Wl hp (.cons (.p _) .nil) ?_;refine (Qa k46 ?_:Qw Tryz.prog Gl 46 _ _ _);refine Ur (Ua R g 0 i hg h) ?_;refine J5 (Q11 hn) ?_;refine (Qa k47 ?_:Qw Tryz.prog Gl 47 _ _ _);refine Z1 1 ?_;refine ifF (cF (by unfold Q4;rfl)) ?_
 refine lpC (fun _=>lsT) (fun s=>Qi0 R g i c ⟨ids,all,[],s⟩) (Q8l all) s0 hl (fun i=>i) (Z1d [] (by rfl) (by repeat' first | exact rN | refine rA ?_ | refine rE rfl ?_) rfl) (fun k s hk=>?_)
 simp only [Q8l] at hk;split at hk
 ·rename_i h1;refine ifP (fun h2=>?_) (fun h2=>?_)
  ·rw [Env.c1] at h2
   have h2:s≤65534:=by unfold Q4 at h2;simpa using h2
   rw [Af h2] at hk;refine (Qa k52 ?_:Qw Tryz.prog Gl 52 _ _ _)
   cases ha:Q4t s 0 all with
   | some q=>
    simp only [ha] at hk;refine Ur (Q26 ha) ?_;refine ⟨(k,IntKind.wrap .i64 (s+1)),(by rw [Qws h1 h2];exact hk),Lf _,fun i=>i,?_⟩;refine Z1d [_] rfl ?_ rfl
    repeat' first | exact rN | refine rA ?_ | refine rE rfl ?_
   | none=>
    exfalso;simp only [ha] at hk;simp at hk;omega
  rw [Env.c1] at h2;unfold Q4 at h2;rw [Ae (by simpa using h2)] at hk;cases hk;refine ifT (cF (by unfold Q4;rfl)) ?_;exact ⟨fzT (.cons (.p _) (.cons (.p _) (.cons (.p _) .nil))),Jc [] rfl⟩
 cases hk
theorem Qra:Q4p Tryz.prog Gl 54 R [.str c,.int .i64 id] (.bool (Q9x R c id)) R:=by
 unfold Q9x
 cases h:Gj c 0 R with
 | none=>exact Qog h
 | some q=>
  obtain ⟨i,C⟩:=q;show Q4p _ _ _ _ _ (.bool (match Q4t id 0 C.all with | none=>_ | some (_,v)=>_)) _
  cases ha:Q4t id 0 C.all with
  | none=>exact Quw h ha
  | some v=>exact Qt7 h ha
theorem Qwv {b:Bool} (hw:WR R) (hp:Q8t Tryz.prog Gl 45 [.str n] (.bool b)) :
  Q4p Tryz.prog Gl 25 R [.str c,.str n] (.tuple [.int .i64 (Qs4 b R c n).1.1,.bool (Qs4 b R c n).1.2.1,.int .i64 (Qs4 b R c n).1.2.2]) (Qs4 b R c n).2:=by
 cases b with
 | false=>exact Qwl hp
 | true=>
  simp only [Qs4,Ak,Qv2,Qyp]
  cases h:Gj c 0 R with
  | none=>exact Qx7 hp h
  | some q=>
   obtain ⟨i,C⟩:=q;have hwc:=hw _ (Qiu h);simp only [Mn,Quj]
   cases hn:Q43 n 0 C.ids with
   | some q=>simp only [];rw [Q9h h];exact Qx4 hp h hn
   | none=>
    obtain ⟨ids,all,back,s0⟩:=C;obtain ⟨h1,h2,h3⟩:=hwc
    simp only at h1 h2 h3 hn
    subst h1;obtain ⟨id,nx,hl,_,_,_⟩:=Qb6 all 65536 s0 h2 h3 (by omega);simp only [hl]
    by_cases h0:id=0
    ·subst h0;exact Qtl hp h hn hl
    simp only [Ae h0];exact Qxf hp h hn hl h0
theorem Qxc {b:Bool} (hp:Q8t Tryz.prog Gl 45 [.str n] (.bool b)) :
  Q4p Tryz.prog Gl 27 R [.str c,.str n,.int .i64 id] (.int .i64 (Qtr b R c n id).1) (Qtr b R c n id).2:=by
 cases b with
 | false=>exact Qw6 hp
 | true=>
  simp only [Qtr,Ak]
  by_cases hi:1≤id∧id≤65534
  ·simp only [Af hi,Qv2,Qyp]
   cases h:Gj c 0 R with
   | none=>exact Qy3 hp hi h
   | some q=>
    obtain ⟨i,C⟩:=q;simp only [Mn,Qv0]
    cases ha:Q4t id 0 C.all with
    | some q=>
     obtain ⟨j,v⟩:=q;simp only []
     by_cases hv:v=(n,true)
     ·subst hv;simp only [Ak];rw [Q9h h];exact Qss hp hi h ha
     simp only [Ae hv];rw [Q9h h];exact Qz6 hp hi h ha hv
    | none=>
     cases hn:Q43 n 0 C.ids with
     | some q=>simp only [];rw [Q9h h];exact Qre hp hi h ha hn
     | none=>exact Qwf hp hi h ha hn
  simp only [Ae hi];exact Qx3 hp hi
end
end
end Go.Av
