/- Part of FromsnNames: the law returns true; no condition. -/
import Derived.Test.YtfgpphgmjcnleaaGreatDoorRegS
import Derived.Test.YtfgpphgmjcnleaaGreatDoorChks
import Derived.Test.YtfgpphgmjcnleaaGreatDoorAvTac
import Derived.Test.YtfgpphgmjcnleaaGreatDoorAvAbb
set_option linter.all false
namespace Go.Av
noncomputable section
open Go.Proofs
attribute [local irreducible] Vw Qv Q8 Q3g Q27 Q6
set_option maxHeartbeats 1000000
variable {Gl:Nat->Option (List PV)}
section
variable {R:Reg} {c n:List UInt8} {id:Int} {i j:Nat} {C:RCl} {v:List UInt8×Bool}
theorem Qkr (h:Ya c 0 R=none):Ug Tryz.prog Gl 401 R [.str c,.int .i64 id] (.tuple [.str [],.int .i64 11]) R:=by
 refine Qot rfl fun g hg=>?_;refine Q3 Qt4 ?_;refine (Q3 k27 ?_:Q8 Tryz.prog Gl 27 _ _ _);refine Y4 (W7 R g 0 h) ?_;exact ⟨fzT (.cons (.p _) (.cons (.p _) .nil)),rfl,rfl⟩
theorem Qqx (h:Ya c 0 R=some (i,C)) (ha:Un id 0 C.all=some (j,v)) :
  Ug Tryz.prog Gl 401 R [.str c,.int .i64 id] (.tuple [.str v.1,.int .i64 0]) R:=by
 refine Vi rfl h fun g hg=>?_;refine Q3 Qt4 ?_;refine (Q3 k27 ?_:Q8 Tryz.prog Gl 27 _ _ _);refine Ze (Z9 R g 0 i hg h) ?_;refine (Q3 k32 ?_:Q8 Tryz.prog Gl 32 _ _ _);refine Ze (Xu ha) ?_;refine Ze (Xu ha) ?_;exact ⟨fzT (.cons (.p _) (.cons (.p _) .nil)),Ym [_] rfl⟩
theorem Qqt (h:Ya c 0 R=some (i,C)) (ha:Un id 0 C.all=none) :
  Ug Tryz.prog Gl 401 R [.str c,.int .i64 id] (.tuple [.str [],.int .i64 11]) R:=by
 refine Vi rfl h fun g hg=>?_;refine Q3 Qt4 ?_;refine (Q3 k27 ?_:Q8 Tryz.prog Gl 27 _ _ _);refine Ze (Z9 R g 0 i hg h) ?_;refine (Q3 k32 ?_:Q8 Tryz.prog Gl 32 _ _ _);refine Y4 (Xw ha) ?_;exact ⟨fzT (.cons (.p _) (.cons (.p _) .nil)),Ym [_] rfl⟩
theorem Qj7 (h:Ya c 0 R=none):Ug Tryz.prog Gl 399 R [.str c,.int .i64 id] (.bool false) R:=by
 refine Qot rfl fun g hg=>?_;refine Q3 Qsx ?_;refine (Q3 k27 ?_:Q8 Tryz.prog Gl 27 _ _ _);refine Y4 (W7 R g 0 h) ?_;exact ⟨.p _,rfl,rfl⟩
theorem Qmq (h:Ya c 0 R=some (i,C)) (ha:Un id 0 C.all=some (j,v)) :
  Ug Tryz.prog Gl 399 R [.str c,.int .i64 id] (.bool v.2) R:=by
 refine Vi rfl h fun g hg=>?_;refine Q3 Qsx ?_;refine (Q3 k27 ?_:Q8 Tryz.prog Gl 27 _ _ _);refine Ze (Z9 R g 0 i hg h) ?_;refine Ze (Xu ha) ?_;exact ⟨.p _,Ym [] rfl⟩
theorem Qnn (h:Ya c 0 R=some (i,C)) (ha:Un id 0 C.all=none) :
  Ug Tryz.prog Gl 399 R [.str c,.int .i64 id] (.bool false) R:=by
 refine Vi rfl h fun g hg=>?_;refine Q3 Qsx ?_;refine (Q3 k27 ?_:Q8 Tryz.prog Gl 27 _ _ _);refine Ze (Z9 R g 0 i hg h) ?_;refine Y4 (Xw ha) ?_;exact ⟨.p _,Ym [] rfl⟩
theorem Qqp (h:Ya c 0 R=none):Ug Tryz.prog Gl 53 R [.str c,.str n] (.tuple [.int .i64 0,.int .i64 11]) R:=by
 refine Qot rfl fun g hg=>?_;refine Q3 k53 ?_;refine (Q3 k27 ?_:Q8 Tryz.prog Gl 27 _ _ _);refine Y4 (W7 R g 0 h) ?_;exact ⟨fzT (.cons (.p _) (.cons (.p _) .nil)),rfl,rfl⟩
theorem Qu0 {x:Int} (h:Ya c 0 R=some (i,C)) (hn:Gp n 0 C.ids=some (j,x)) :
  Ug Tryz.prog Gl 53 R [.str c,.str n] (.tuple [.int .i64 x,.int .i64 0]) R:=by
 refine Vi rfl h fun g hg=>?_;refine Q3 k53 ?_;refine (Q3 k27 ?_:Q8 Tryz.prog Gl 27 _ _ _);refine Ze (Z9 R g 0 i hg h) ?_;refine Ze (Q0p hn) ?_;exact ⟨fzT (.cons (.p _) (.cons (.p _) .nil)),Ym [] rfl⟩
theorem Qtz (h:Ya c 0 R=some (i,C)) (hn:Gp n 0 C.ids=none) :
  Ug Tryz.prog Gl 53 R [.str c,.str n] (.tuple [.int .i64 0,.int .i64 11]) R:=by
 refine Vi rfl h fun g hg=>?_;refine Q3 k53 ?_;refine (Q3 k27 ?_:Q8 Tryz.prog Gl 27 _ _ _);refine Ze (Z9 R g 0 i hg h) ?_;refine Y4 (V7 hn) ?_;exact ⟨fzT (.cons (.p _) (.cons (.p _) .nil)),Ym [] rfl⟩
theorem Qri:Ug Tryz.prog Gl 53 R [.str c,.str n] (.tuple [.int .i64 (rID R c n).1,.int .i64 (rID R c n).2]) R:=by
 unfold rID
 cases h:Ya c 0 R with
 | none=>exact Qqp h
 | some q=>
  obtain ⟨i,C⟩:=q;show Ug _ _ _ _ _ (.tuple [.int .i64 (match Gp n 0 C.ids with | none=>_ | some (_,id)=>_:Int×Int).1,.int .i64 (match Gp n 0 C.ids with | none=>_ | some (_,id)=>_:Int×Int).2]) _
  cases hn:Gp n 0 C.ids with
  | none=>exact Qtz h hn
  | some v=>exact Qu0 h hn
theorem Qpe:Qhl Tryz.prog Gl 14:=Qtx (Q3 k14 ⟨0,1,rfl,rfl,rfl,by decide⟩)
theorem Qpg (hp:Q5r Tryz.prog Gl 28 [.str n] (.bool false)):Ug Tryz.prog Gl 15 R [.str c,.str n] (.tuple [.int .i64 0,.bool false,.int .i64 10]) R:=by
 refine Qot rfl fun g hg=>?_;refine Q3 k15 ?_;refine Y1 hp (.cons (.p _) .nil) ?_;exact ⟨fzT (.cons (.p _) (.cons (.p _) (.cons (.p _) .nil))),rfl,rfl⟩
theorem Qqu (hp:Q5r Tryz.prog Gl 28 [.str n] (.bool true)) (h:Ya c 0 R=some (i,C)) (hn:Gp n 0 C.ids=some (j,id)):Ug Tryz.prog Gl 15 R [.str c,.str n] (.tuple [.int .i64 id,.bool false,.int .i64 0]) R:=by
 refine Vi rfl h fun g hg=>?_;refine Q3 k15 ?_;refine Y1 hp (.cons (.p _) .nil) ?_;refine (Q3 k29 ?_:Q8 Tryz.prog Gl 29 _ _ _);refine Ze (Z9 R g 0 i hg h) ?_;refine Ze (Q0p hn) ?_;exact ⟨fzT (.cons (.p _) (.cons (.p _) (.cons (.p _) .nil))),Ym [] rfl⟩
theorem Qq6 (hp:Q5r Tryz.prog Gl 28 [.str n] (.bool true)) (h:Ya c 0 R=none):Ug Tryz.prog Gl 15 R [.str c,.str n] (.tuple [.int .i64 1,.bool true,.int .i64 0]) (R ++ [(c,⟨[(n,1)],[(1,n,false)],[],2⟩)]):=by
 refine Qxt rfl fun g hg=>?_;refine Q3 k15 ?_;refine Y1 hp (.cons (.p _) .nil) ?_;refine (Q3 k29 ?_:Q8 Tryz.prog Gl 29 _ _ _);refine Y4 (W7 R g 0 h) ?_;refine Y4 (W7 R g 0 h) ?_;refine apP (l:=gm R g) rfl ?_;refine Qfj ?_;refine (Q3 k30 ?_:Q8 Tryz.prog Gl 30 _ _ _);refine Qk 1 ?_;refine ifF (cF (by unfold Q6;decide)) ?_;refine Qk 1 ?_;refine ifT (cF (by unfold Q6;decide)) ?_;refine (Q3 k32 ?_:Q8 Tryz.prog Gl 32 _ _ _);refine Qfj ?_;refine ifF (cF (by unfold Q6;decide)) ?_;refine (Q3 k31 ?_:Q8 Tryz.prog Gl 31 _ _ _);refine Yf 8 rfl rfl ?_;refine Qfj ?_;refine Yf 7 rfl rfl ?_;refine Qfj ?_;exact ⟨fzT (.cons (.p _) (.cons (.p _) (.cons (.p _) .nil))),Qmd (ids := [(n,1)]) (all := [(1,n,false)]) [_,_] rfl⟩
theorem Qpi (hp:Q5r Tryz.prog Gl 28 [.str n] (.bool false)):Ug Tryz.prog Gl 16 R [.str c,.str n,.int .i64 id] (.int .i64 10) R:=by
 refine Qot rfl fun g hg=>?_;refine Q3 k16 ?_;refine Y1 hp (.cons (.p _) .nil) ?_;exact ⟨.p _,rfl,rfl⟩
theorem Qqv (hp:Q5r Tryz.prog Gl 28 [.str n] (.bool true)) (hi:¬ (1≤id∧id≤65534)):Ug Tryz.prog Gl 16 R [.str c,.str n,.int .i64 id] (.int .i64 2) R:=by
 refine Qot rfl fun g hg=>?_;refine Q3 k16 ?_;refine Y1 hp (.cons (.p _) .nil) ?_;refine ifP (fun h1=>?_) (fun h1=>?_)
 ·exact ⟨.p _,rfl,rfl⟩
 refine ifP (fun h2=>?_) (fun h2=>?_)
 ·exact ⟨.p _,rfl,rfl⟩
 exfalso;rw [Env.c1] at h1 h2;unfold Q6 at h1 h2;simp at h1 h2;omega
theorem Qq0 (hp:Q5r Tryz.prog Gl 28 [.str n] (.bool true)) (hi:1≤id∧id≤65534) (h:Ya c 0 R=none):Ug Tryz.prog Gl 16 R [.str c,.str n,.int .i64 id] (.int .i64 0) (R ++ [(c,⟨[(n,id)],[(id,n,true)],[],1⟩)]):=by
 refine Qxt rfl fun g hg=>?_;refine Q3 k16 ?_;refine Y1 hp (.cons (.p _) .nil) ?_;refine ifF (cF (by unfold Q6;simp;omega)) ?_;refine ifF (cF (by unfold Q6;simp;omega)) ?_;refine (Q3 k27 ?_:Q8 Tryz.prog Gl 27 _ _ _);refine Y4 (W7 R g 0 h) ?_;refine Qhi 5 rfl ?_
 repeat' first
  | exact trivial
  | refine Y4 (W7 R g 0 h) ?_
  | refine apP (l:=gm R g) rfl ?_
  | refine Qfj ?_
  | refine Yf 8 rfl rfl ?_
  | refine Yf 7 rfl rfl ?_
  | refine (Q3 k29 ?_:Q8 Tryz.prog Gl 29 _ _ _)
  | refine (Q3 k31 ?_:Q8 Tryz.prog Gl 31 _ _ _)
  | exact ⟨.p _,Qfm (ids := [(n,id)]) (all := [(id,n,true)]) 3 (by decide) rfl rfl rfl rfl rfl⟩
  | refine ⟨?_,?_⟩
theorem Qnh (hp:Q5r Tryz.prog Gl 28 [.str n] (.bool true)) (hi:1≤id∧id≤65534) (h:Ya c 0 R=some (i,C)) (ha:Un id 0 C.all=some (j,n,true)) :
  Ug Tryz.prog Gl 16 R [.str c,.str n,.int .i64 id] (.int .i64 0) R:=by
 refine Vi rfl h fun g hg=>?_;refine Q3 k16 ?_;refine Y1 hp (.cons (.p _) .nil) ?_;refine ifF (cF (by unfold Q6;simp;omega)) ?_;refine ifF (cF (by unfold Q6;simp;omega)) ?_;refine (Q3 k27 ?_:Q8 Tryz.prog Gl 27 _ _ _);refine Ze (Z9 R g 0 i hg h) ?_;refine Ze (Xu ha) ?_;refine ifT (by simp [ifB]) ?_;exact ⟨.p _,Ym [_,_] rfl⟩
theorem Qsi (hp:Q5r Tryz.prog Gl 28 [.str n] (.bool true)) (hi:1≤id∧id≤65534) (h:Ya c 0 R=some (i,C)) (ha:Un id 0 C.all=some (j,v)) (hv:v≠(n,true)) :
  Ug Tryz.prog Gl 16 R [.str c,.str n,.int .i64 id] (.int .i64 16) R:=by
 refine Vi rfl h fun g hg=>?_;refine Q3 k16 ?_;refine Y1 hp (.cons (.p _) .nil) ?_;refine ifF (cF (by unfold Q6;simp;omega)) ?_;refine ifF (cF (by unfold Q6;simp;omega)) ?_;refine (Q3 k27 ?_:Q8 Tryz.prog Gl 27 _ _ _);refine Ze (Z9 R g 0 i hg h) ?_;refine Ze (Xu ha) ?_;refine ifF (by obtain ⟨a,b⟩:=v;by_cases e:a=n<;>cases b<;>simp_all [ifB]) ?_
 cases hn:Gp n 0 C.ids with
 | none=>
  refine Y4 (V7 hn) ?_;refine (Q3 k32 ?_:Q8 Tryz.prog Gl 32 _ _ _);refine Ze (Xu ha) ?_;exact ⟨.p _,Ym [_,_,_] rfl⟩
 | some q=>
  refine Ze (Q0p hn) ?_;exact ⟨.p _,Ym [_,_] rfl⟩
theorem Qk8 (hp:Q5r Tryz.prog Gl 28 [.str n] (.bool true)) (hi:1≤id∧id≤65534) (h:Ya c 0 R=some (i,C)) (ha:Un id 0 C.all=none) {x:Int} (hn:Gp n 0 C.ids=some (j,x)) :
  Ug Tryz.prog Gl 16 R [.str c,.str n,.int .i64 id] (.int .i64 16) R:=by
 refine Vi rfl h fun g hg=>?_;refine Q3 k16 ?_;refine Y1 hp (.cons (.p _) .nil) ?_;refine ifF (cF (by unfold Q6;simp;omega)) ?_;refine ifF (cF (by unfold Q6;simp;omega)) ?_;refine (Q3 k27 ?_:Q8 Tryz.prog Gl 27 _ _ _);refine Ze (Z9 R g 0 i hg h) ?_;refine Y4 (Xw ha) ?_;refine Ze (Q0p hn) ?_;exact ⟨.p _,Ym [_,_] rfl⟩
theorem Qqb (hp:Q5r Tryz.prog Gl 28 [.str n] (.bool true)) (hi:1≤id∧id≤65534) (h:Ya c 0 R=some (i,C)) (ha:Un id 0 C.all=none) (hn:Gp n 0 C.ids=none) :
  Ug Tryz.prog Gl 16 R [.str c,.str n,.int .i64 id] (.int .i64 0) (R.set i (c,⟨C.ids ++ [(n,id)],C.all ++ [(id,n,true)],C.back,C.next⟩)):=by
 refine Qs8 rfl h fun g hg=>?_;refine Q3 k16 ?_;refine Y1 hp (.cons (.p _) .nil) ?_;refine ifF (cF (by unfold Q6;simp;omega)) ?_;refine ifF (cF (by unfold Q6;simp;omega)) ?_;refine (Q3 k27 ?_:Q8 Tryz.prog Gl 27 _ _ _);refine Ze (Z9 R g 0 i hg h) ?_;refine Y4 (Xw ha) ?_;refine Y4 (V7 hn) ?_;refine (Q3 k32 ?_:Q8 Tryz.prog Gl 32 _ _ _);refine Y4 (Xw ha) ?_;refine Qhi 5 rfl ?_
 repeat' first
  | exact trivial
  | refine Ze (Z9 R g 0 i hg h) ?_
  | refine Y4 (V7 hn) ?_
  | refine Y4 (Xw ha) ?_
  | refine apP (l:=Q4j C.ids) (Qm0 _ _ _) ?_
  | refine apP (l:=Q0z C.all) (Qkk _ _ _ _) ?_
  | refine Yf 8 rfl rfl ?_
  | refine Yf 7 rfl rfl ?_
  | refine (Q3 k29 ?_:Q8 Tryz.prog Gl 29 _ _ _)
  | refine (Q3 k31 ?_:Q8 Tryz.prog Gl 31 _ _ _)
  | exact ⟨.p _,Ym [_,_,_,_] rfl⟩
  | exact ⟨.p _,Ym [_,_,_] rfl⟩
  | refine ⟨?_,?_⟩
def lsT:List AV := .ptr 2 0 :: .any :: .p (.int .i64 0)::a16 (a16 (a8 (a4 (a2 (.any :: [])))))
theorem Qqm {s:Int} (h1:1≤s) (h2:s≤65534):IntKind.wrap .i64 (s+1)=s+1:=by
 rw [IntKind.wrap_i64];omega
theorem Qk9 {g:List (Nat×Nat)} {a b} {d:List Int} {w x:Int} {H':List AObj} (e:w=x) (h:Q81 R g i c ⟨a,b,d,w⟩ H'):Q81 R g i c ⟨a,b,d,x⟩ H':=e▸h
theorem Qqh (hp:Q5r Tryz.prog Gl 28 [.str n] (.bool true)) {ids:List (List UInt8×Int)} {all:List (Int×List UInt8×Bool)} {s0 nx:Int} {N:Nat} (h:Ya c 0 R=some (i,⟨ids,all,[],s0⟩)) (hn:Gp n 0 ids=none)
  (hl:Q52 all N s0=some (id,nx)) (h0:id≠0):Ug Tryz.prog Gl 15 R [.str c,.str n] (.tuple [.int .i64 id,.bool true,.int .i64 0]) (R.set i (c,⟨ids ++ [(n,id)],all ++ [(id,n,false)],[],nx⟩)):=by
 refine Qs8 rfl h fun g hg=>?_;refine Q3 k15 ?_;refine Y1 hp (.cons (.p _) .nil) ?_;refine (Q3 k29 ?_:Q8 Tryz.prog Gl 29 _ _ _);refine Ze (Z9 R g 0 i hg h) ?_;refine Y4 (V7 hn) ?_;refine (Q3 k30 ?_:Q8 Tryz.prog Gl 30 _ _ _);refine Qk 1 ?_;refine ifF (cF (by unfold Q6;rfl)) ?_
 refine lpC (fun _=>lsT) (fun s=>Q41 R g i c ⟨ids,all,[],s⟩) (Q52 all) s0 hl (fun i=>i) (Qt3 [] (by rfl) (by repeat' first | exact rN | refine rA ?_ | refine rE rfl ?_) rfl) (fun k s hk=>?_)
 simp only [Q52] at hk;split at hk
 ·rename_i h1;refine ifP (fun h2=>?_) (fun h2=>?_)
  ·rw [Env.c1] at h2
   have h2:s≤65534:=by unfold Q6 at h2;simpa using h2
   rw [Af h2] at hk;refine (Q3 k32 ?_:Q8 Tryz.prog Gl 32 _ _ _)
   cases ha:Un s 0 all with
   | some q=>
    simp only [ha] at hk;refine Ze (Xu ha) ?_;refine ⟨(k,IntKind.wrap .i64 (s+1)),(by rw [Qqm h1 h2];exact hk),Ll _,fun i=>i,?_⟩;refine Qt3 [_] rfl ?_ rfl
    repeat' first | exact rN | refine rA ?_ | refine rE rfl ?_
   | none=>
    simp only [ha] at hk;cases hk;refine Y4 (Xw ha) ?_;refine ifF (cF (by unfold Q6;simp;omega)) ?_;refine (Q3 k31 ?_:Q8 Tryz.prog Gl 31 _ _ _);refine Yf 8 rfl rfl ?_;refine Y4 (V7 hn) ?_;refine apP (l:=Q4j ids) (Qm0 _ _ _) ?_;refine Yf 7 rfl rfl ?_;refine Y4 (Xw ha) ?_;refine apP (l:=Q0z all) (Qkk _ _ _ _) ?_;exact ⟨fzT (.cons (.p _) (.cons (.p _) (.cons (.p _) .nil))),Qk9 (Qqm h1 h2) (Ym [_,_] rfl)⟩
  exfalso;rw [Env.c1] at h2;unfold Q6 at h2;rw [Ae (by simpa using h2)] at hk;cases hk;exact h0 rfl
 cases hk
theorem Qno (hp:Q5r Tryz.prog Gl 28 [.str n] (.bool true)) {ids:List (List UInt8×Int)} {all:List (Int×List UInt8×Bool)} {s0 nx:Int} {N:Nat} (h:Ya c 0 R=some (i,⟨ids,all,[],s0⟩)) (hn:Gp n 0 ids=none)
  (hl:Q52 all N s0=some (0,nx)):Ug Tryz.prog Gl 15 R [.str c,.str n] (.tuple [.int .i64 0,.bool false,.int .i64 12]) (R.set i (c,⟨ids,all,[],nx⟩)):=by
 refine Qs8 rfl h fun g hg=>?_;refine Q3 k15 ?_;refine Y1 hp (.cons (.p _) .nil) ?_;refine (Q3 k29 ?_:Q8 Tryz.prog Gl 29 _ _ _);refine Ze (Z9 R g 0 i hg h) ?_;refine Y4 (V7 hn) ?_;refine (Q3 k30 ?_:Q8 Tryz.prog Gl 30 _ _ _);refine Qk 1 ?_;refine ifF (cF (by unfold Q6;rfl)) ?_
 refine lpC (fun _=>lsT) (fun s=>Q41 R g i c ⟨ids,all,[],s⟩) (Q52 all) s0 hl (fun i=>i) (Qt3 [] (by rfl) (by repeat' first | exact rN | refine rA ?_ | refine rE rfl ?_) rfl) (fun k s hk=>?_)
 simp only [Q52] at hk;split at hk
 ·rename_i h1;refine ifP (fun h2=>?_) (fun h2=>?_)
  ·rw [Env.c1] at h2
   have h2:s≤65534:=by unfold Q6 at h2;simpa using h2
   rw [Af h2] at hk;refine (Q3 k32 ?_:Q8 Tryz.prog Gl 32 _ _ _)
   cases ha:Un s 0 all with
   | some q=>
    simp only [ha] at hk;refine Ze (Xu ha) ?_;refine ⟨(k,IntKind.wrap .i64 (s+1)),(by rw [Qqm h1 h2];exact hk),Ll _,fun i=>i,?_⟩;refine Qt3 [_] rfl ?_ rfl
    repeat' first | exact rN | refine rA ?_ | refine rE rfl ?_
   | none=>
    exfalso;simp only [ha] at hk;simp at hk;omega
  rw [Env.c1] at h2;unfold Q6 at h2;rw [Ae (by simpa using h2)] at hk;cases hk;refine ifT (cF (by unfold Q6;rfl)) ?_;exact ⟨fzT (.cons (.p _) (.cons (.p _) (.cons (.p _) .nil))),Ym [] rfl⟩
 cases hk
theorem Qn7:Ug Tryz.prog Gl 401 R [.str c,.int .i64 id] (.tuple [.str (Qmj R c id).1,.int .i64 (Qmj R c id).2]) R:=by
 unfold Qmj
 cases h:Ya c 0 R with
 | none=>exact Qkr h
 | some q=>
  obtain ⟨i,C⟩:=q;show Ug _ _ _ _ _ (.tuple [.str (match Un id 0 C.all with | none=>_ | some (_,v)=>_:List UInt8×Int).1,.int .i64 (match Un id 0 C.all with | none=>_ | some (_,v)=>_:List UInt8×Int).2]) _
  cases ha:Un id 0 C.all with
  | none=>exact Qqt h ha
  | some v=>exact Qqx h ha
theorem Ql8:Ug Tryz.prog Gl 399 R [.str c,.int .i64 id] (.bool (Qlw R c id)) R:=by
 unfold Qlw
 cases h:Ya c 0 R with
 | none=>exact Qj7 h
 | some q=>
  obtain ⟨i,C⟩:=q;show Ug _ _ _ _ _ (.bool (match Un id 0 C.all with | none=>_ | some (_,v)=>_)) _
  cases ha:Un id 0 C.all with
  | none=>exact Qnn h ha
  | some v=>exact Qmq h ha
theorem Qpx {b:Bool} (hw:WR R) (hp:Q5r Tryz.prog Gl 28 [.str n] (.bool b)) :
  Ug Tryz.prog Gl 15 R [.str c,.str n] (.tuple [.int .i64 (Qrb b R c n).1.1,.bool (Qrb b R c n).1.2.1,.int .i64 (Qrb b R c n).1.2.2]) (Qrb b R c n).2:=by
 cases b with
 | false=>exact Qpg hp
 | true=>
  simp only [Qrb,Ak,Qr8,Qsz]
  cases h:Ya c 0 R with
  | none=>exact Qq6 hp h
  | some q=>
   obtain ⟨i,C⟩:=q;have hwc:=hw _ (Qlq h);simp only [Mc,Qts]
   cases hn:Gp n 0 C.ids with
   | some q=>simp only [];rw [Q6j h];exact Qqu hp h hn
   | none=>
    obtain ⟨ids,all,back,s0⟩:=C;obtain ⟨h1,h2,h3⟩:=hwc
    simp only at h1 h2 h3 hn
    subst h1;obtain ⟨id,nx,hl,_,_,_⟩:=Qbt all 65536 s0 h2 h3 (by omega);simp only [hl]
    by_cases h0:id=0
    ·subst h0;exact Qno hp h hn hl
    simp only [Ae h0];exact Qqh hp h hn hl h0
theorem Qr5 {b:Bool} (hp:Q5r Tryz.prog Gl 28 [.str n] (.bool b)) :
  Ug Tryz.prog Gl 16 R [.str c,.str n,.int .i64 id] (.int .i64 (Qt6 b R c n id).1) (Qt6 b R c n id).2:=by
 cases b with
 | false=>exact Qpi hp
 | true=>
  simp only [Qt6,Ak]
  by_cases hi:1≤id∧id≤65534
  ·simp only [Af hi,Qr8,Qsz]
   cases h:Ya c 0 R with
   | none=>exact Qq0 hp hi h
   | some q=>
    obtain ⟨i,C⟩:=q;simp only [Mc,Qtp]
    cases ha:Un id 0 C.all with
    | some q=>
     obtain ⟨j,v⟩:=q;simp only []
     by_cases hv:v=(n,true)
     ·subst hv;simp only [Ak];rw [Q6j h];exact Qnh hp hi h ha
     simp only [Ae hv];rw [Q6j h];exact Qsi hp hi h ha hv
    | none=>
     cases hn:Gp n 0 C.ids with
     | some q=>simp only [];rw [Q6j h];exact Qk8 hp hi h ha hn
     | none=>exact Qqb hp hi h ha hn
  simp only [Ae hi];exact Qqv hp hi
end
end
end Go.Av
