/- Part of FromsnLearns: the law returns true; no condition. -/
import Derived.Test.YtgkmcegmobfknaaGreatDoorRegS
import Derived.Test.YtgkmcegmobfknaaGreatDoorChks
import Derived.Test.YtgkmcegmobfknaaGreatDoorAvClosed4
import Derived.Test.YtgkmcegmobfknaaGreatDoorAvSelf
set_option linter.all false
namespace Go.Av
noncomputable section
open Go.Proofs
attribute [local irreducible] Ga Wb Qd Q4s Q3q Q2
set_option maxHeartbeats 1000000
variable {Gl:Nat->Option (List PV)}
section
variable {R:Reg} {c n:List UInt8} {id:Int} {i j:Nat} {C:RCl} {v:List UInt8×Bool}
theorem Qp6 (h:Yx c 0 R=none):Q0j Tryz.prog Gl 12 R [.str c,.int .i64 id] (.tuple [.str [],.int .i64 11]) R:=by
 refine Qwl rfl fun g hg=>?_;refine Q6 k12 ?_;refine (Q6 k23 ?_:Qd Tryz.prog Gl 23 _ _ _);refine Wk (Jj R g 0 h) ?_;exact ⟨fzT (.cons (.p _) (.cons (.p _) .nil)),rfl,rfl⟩
theorem Qvk (h:Yx c 0 R=some (i,C)) (ha:Js id 0 C.all=some (j,v)) :
  Q0j Tryz.prog Gl 12 R [.str c,.int .i64 id] (.tuple [.str v.1,.int .i64 0]) R:=by
 refine Ge rfl h fun g hg=>?_;refine Q6 k12 ?_;refine (Q6 k23 ?_:Qd Tryz.prog Gl 23 _ _ _);refine Xk (Xi R g 0 i hg h) ?_;refine (Q6 k39 ?_:Qd Tryz.prog Gl 39 _ _ _);refine Xk (Us ha) ?_;refine Xk (Us ha) ?_;exact ⟨fzT (.cons (.p _) (.cons (.p _) .nil)),Vh [_] rfl⟩
theorem Qxj (h:Yx c 0 R=some (i,C)) (ha:Js id 0 C.all=none) :
  Q0j Tryz.prog Gl 12 R [.str c,.int .i64 id] (.tuple [.str [],.int .i64 11]) R:=by
 refine Ge rfl h fun g hg=>?_;refine Q6 k12 ?_;refine (Q6 k23 ?_:Qd Tryz.prog Gl 23 _ _ _);refine Xk (Xi R g 0 i hg h) ?_;refine (Q6 k39 ?_:Qd Tryz.prog Gl 39 _ _ _);refine Wk (Ur ha) ?_;exact ⟨fzT (.cons (.p _) (.cons (.p _) .nil)),Vh [_] rfl⟩
theorem Qlt (h:Yx c 0 R=none):Q0j Tryz.prog Gl 13 R [.str c,.int .i64 id] (.bool false) R:=by
 refine Qwl rfl fun g hg=>?_;refine Q6 k13 ?_;refine (Q6 k23 ?_:Qd Tryz.prog Gl 23 _ _ _);refine Wk (Jj R g 0 h) ?_;exact ⟨.p _,rfl,rfl⟩
theorem Qr5 (h:Yx c 0 R=some (i,C)) (ha:Js id 0 C.all=some (j,v)) :
  Q0j Tryz.prog Gl 13 R [.str c,.int .i64 id] (.bool v.2) R:=by
 refine Ge rfl h fun g hg=>?_;refine Q6 k13 ?_;refine (Q6 k23 ?_:Qd Tryz.prog Gl 23 _ _ _);refine Xk (Xi R g 0 i hg h) ?_;refine Xk (Us ha) ?_;exact ⟨.p _,Vh [] rfl⟩
theorem Qsp (h:Yx c 0 R=some (i,C)) (ha:Js id 0 C.all=none) :
  Q0j Tryz.prog Gl 13 R [.str c,.int .i64 id] (.bool false) R:=by
 refine Ge rfl h fun g hg=>?_;refine Q6 k13 ?_;refine (Q6 k23 ?_:Qd Tryz.prog Gl 23 _ _ _);refine Xk (Xi R g 0 i hg h) ?_;refine Wk (Ur ha) ?_;exact ⟨.p _,Vh [] rfl⟩
theorem Qv2 (h:Yx c 0 R=none):Q0j Tryz.prog Gl 67 R [.str c,.str n] (.tuple [.int .i64 0,.int .i64 11]) R:=by
 refine Qwl rfl fun g hg=>?_;refine Q6 k67 ?_;refine (Q6 k23 ?_:Qd Tryz.prog Gl 23 _ _ _);refine Wk (Jj R g 0 h) ?_;exact ⟨fzT (.cons (.p _) (.cons (.p _) .nil)),rfl,rfl⟩
theorem Z1k {x:Int} (h:Yx c 0 R=some (i,C)) (hn:Gk n 0 C.ids=some (j,x)) :
  Q0j Tryz.prog Gl 67 R [.str c,.str n] (.tuple [.int .i64 x,.int .i64 0]) R:=by
 refine Ge rfl h fun g hg=>?_;refine Q6 k67 ?_;refine (Q6 k23 ?_:Qd Tryz.prog Gl 23 _ _ _);refine Xk (Xi R g 0 i hg h) ?_;refine Xk (Q1y hn) ?_;exact ⟨fzT (.cons (.p _) (.cons (.p _) .nil)),Vh [] rfl⟩
theorem Z20 (h:Yx c 0 R=some (i,C)) (hn:Gk n 0 C.ids=none) :
  Q0j Tryz.prog Gl 67 R [.str c,.str n] (.tuple [.int .i64 0,.int .i64 11]) R:=by
 refine Ge rfl h fun g hg=>?_;refine Q6 k67 ?_;refine (Q6 k23 ?_:Qd Tryz.prog Gl 23 _ _ _);refine Xk (Xi R g 0 i hg h) ?_;refine Wk (Jx hn) ?_;exact ⟨fzT (.cons (.p _) (.cons (.p _) .nil)),Vh [] rfl⟩
theorem Qyg:Q0j Tryz.prog Gl 67 R [.str c,.str n] (.tuple [.int .i64 (rID R c n).1,.int .i64 (rID R c n).2]) R:=by
 unfold rID
 cases h:Yx c 0 R with
 | none=>exact Qv2 h
 | some q=>
  obtain ⟨i,C⟩:=q;show Q0j _ _ _ _ _ (.tuple [.int .i64 (match Gk n 0 C.ids with | none=>_ | some (_,id)=>_:Int×Int).1,.int .i64 (match Gk n 0 C.ids with | none=>_ | some (_,id)=>_:Int×Int).2]) _
  cases hn:Gk n 0 C.ids with
  | none=>exact Z20 h hn
  | some v=>exact Z1k h hn
theorem Qy5:Qjs Tryz.prog Gl 17:=Z2j (Q6 k17 ⟨0,1,rfl,rfl,rfl,by decide⟩)
theorem Qy4 (hp:Q7x Tryz.prog Gl 44 [.str n] (.bool false)):Q0j Tryz.prog Gl 19 R [.str c,.str n] (.tuple [.int .i64 0,.bool false,.int .i64 10]) R:=by
 refine Qwl rfl fun g hg=>?_;refine Q6 k19 ?_;refine Vg hp (.cons (.p _) .nil) ?_;exact ⟨fzT (.cons (.p _) (.cons (.p _) (.cons (.p _) .nil))),rfl,rfl⟩
theorem Qxo (hp:Q7x Tryz.prog Gl 44 [.str n] (.bool true)) (h:Yx c 0 R=some (i,C)) (hn:Gk n 0 C.ids=some (j,id)):Q0j Tryz.prog Gl 19 R [.str c,.str n] (.tuple [.int .i64 id,.bool false,.int .i64 0]) R:=by
 refine Ge rfl h fun g hg=>?_;refine Q6 k19 ?_;refine Vg hp (.cons (.p _) .nil) ?_;refine (Q6 k45 ?_:Qd Tryz.prog Gl 45 _ _ _);refine Xk (Xi R g 0 i hg h) ?_;refine Xk (Q1y hn) ?_;exact ⟨fzT (.cons (.p _) (.cons (.p _) (.cons (.p _) .nil))),Vh [] rfl⟩
theorem Qv5 (hp:Q7x Tryz.prog Gl 44 [.str n] (.bool true)) (h:Yx c 0 R=none):Q0j Tryz.prog Gl 19 R [.str c,.str n] (.tuple [.int .i64 1,.bool true,.int .i64 0]) (R ++ [(c,⟨[(n,1)],[(1,n,false)],[],2⟩)]):=by
 refine Z2r rfl fun g hg=>?_;refine Q6 k19 ?_;refine Vg hp (.cons (.p _) .nil) ?_;refine (Q6 k45 ?_:Qd Tryz.prog Gl 45 _ _ _);refine Wk (Jj R g 0 h) ?_;refine Wk (Jj R g 0 h) ?_;refine apP (l:=gm R g) rfl ?_;refine Qhg ?_;refine (Q6 k46 ?_:Qd Tryz.prog Gl 46 _ _ _);refine Z2 1 ?_;refine ifF (cF (by unfold Q2;decide)) ?_;refine Z2 1 ?_;refine ifT (cF (by unfold Q2;decide)) ?_;refine (Q6 k39 ?_:Qd Tryz.prog Gl 39 _ _ _);refine Qhg ?_;refine ifF (cF (by unfold Q2;decide)) ?_;refine (Q6 k47 ?_:Qd Tryz.prog Gl 47 _ _ _);refine Xx 8 rfl rfl ?_;refine Qhg ?_;refine Xx 7 rfl rfl ?_;refine Qhg ?_;exact ⟨fzT (.cons (.p _) (.cons (.p _) (.cons (.p _) .nil))),Qqq (ids := [(n,1)]) (all := [(1,n,false)]) [_,_] rfl⟩
theorem Qwv (hp:Q7x Tryz.prog Gl 44 [.str n] (.bool false)):Q0j Tryz.prog Gl 21 R [.str c,.str n,.int .i64 id] (.int .i64 10) R:=by
 refine Qwl rfl fun g hg=>?_;refine Q6 k21 ?_;refine Vg hp (.cons (.p _) .nil) ?_;exact ⟨.p _,rfl,rfl⟩
theorem Qwo (hp:Q7x Tryz.prog Gl 44 [.str n] (.bool true)) (hi:¬ (1≤id∧id≤65534)):Q0j Tryz.prog Gl 21 R [.str c,.str n,.int .i64 id] (.int .i64 2) R:=by
 refine Qwl rfl fun g hg=>?_;refine Q6 k21 ?_;refine Vg hp (.cons (.p _) .nil) ?_;refine ifP (fun h1=>?_) (fun h1=>?_)
 ·exact ⟨.p _,rfl,rfl⟩
 refine ifP (fun h2=>?_) (fun h2=>?_)
 ·exact ⟨.p _,rfl,rfl⟩
 exfalso;rw [Env.c1] at h1 h2;unfold Q2 at h1 h2;simp at h1 h2;omega
theorem Qxw (hp:Q7x Tryz.prog Gl 44 [.str n] (.bool true)) (hi:1≤id∧id≤65534) (h:Yx c 0 R=none):Q0j Tryz.prog Gl 21 R [.str c,.str n,.int .i64 id] (.int .i64 0) (R ++ [(c,⟨[(n,id)],[(id,n,true)],[],1⟩)]):=by
 refine Z2r rfl fun g hg=>?_;refine Q6 k21 ?_;refine Vg hp (.cons (.p _) .nil) ?_;refine ifF (cF (by unfold Q2;simp;omega)) ?_;refine ifF (cF (by unfold Q2;simp;omega)) ?_;refine (Q6 k23 ?_:Qd Tryz.prog Gl 23 _ _ _);refine Wk (Jj R g 0 h) ?_;refine Qju 5 rfl ?_
 repeat' first
  | exact trivial
  | refine Wk (Jj R g 0 h) ?_
  | refine apP (l:=gm R g) rfl ?_
  | refine Qhg ?_
  | refine Xx 8 rfl rfl ?_
  | refine Xx 7 rfl rfl ?_
  | refine (Q6 k45 ?_:Qd Tryz.prog Gl 45 _ _ _)
  | refine (Q6 k47 ?_:Qd Tryz.prog Gl 47 _ _ _)
  | exact ⟨.p _,Qfv (ids := [(n,id)]) (all := [(id,n,true)]) 3 (by decide) rfl rfl rfl rfl rfl⟩
  | refine ⟨?_,?_⟩
theorem Qs3 (hp:Q7x Tryz.prog Gl 44 [.str n] (.bool true)) (hi:1≤id∧id≤65534) (h:Yx c 0 R=some (i,C)) (ha:Js id 0 C.all=some (j,n,true)) :
  Q0j Tryz.prog Gl 21 R [.str c,.str n,.int .i64 id] (.int .i64 0) R:=by
 refine Ge rfl h fun g hg=>?_;refine Q6 k21 ?_;refine Vg hp (.cons (.p _) .nil) ?_;refine ifF (cF (by unfold Q2;simp;omega)) ?_;refine ifF (cF (by unfold Q2;simp;omega)) ?_;refine (Q6 k23 ?_:Qd Tryz.prog Gl 23 _ _ _);refine Xk (Xi R g 0 i hg h) ?_;refine Xk (Us ha) ?_;refine ifT (by simp [ifB]) ?_;exact ⟨.p _,Vh [_,_] rfl⟩
theorem Z0b (hp:Q7x Tryz.prog Gl 44 [.str n] (.bool true)) (hi:1≤id∧id≤65534) (h:Yx c 0 R=some (i,C)) (ha:Js id 0 C.all=some (j,v)) (hv:v≠(n,true)) :
  Q0j Tryz.prog Gl 21 R [.str c,.str n,.int .i64 id] (.int .i64 16) R:=by
 refine Ge rfl h fun g hg=>?_;refine Q6 k21 ?_;refine Vg hp (.cons (.p _) .nil) ?_;refine ifF (cF (by unfold Q2;simp;omega)) ?_;refine ifF (cF (by unfold Q2;simp;omega)) ?_;refine (Q6 k23 ?_:Qd Tryz.prog Gl 23 _ _ _);refine Xk (Xi R g 0 i hg h) ?_;refine Xk (Us ha) ?_;refine ifF (by obtain ⟨a,b⟩:=v;by_cases e:a=n<;>cases b<;>simp_all [ifB]) ?_
 cases hn:Gk n 0 C.ids with
 | none=>
  refine Wk (Jx hn) ?_;refine (Q6 k39 ?_:Qd Tryz.prog Gl 39 _ _ _);refine Xk (Us ha) ?_;exact ⟨.p _,Vh [_,_,_] rfl⟩
 | some q=>
  refine Xk (Q1y hn) ?_;exact ⟨.p _,Vh [_,_] rfl⟩
theorem Qny (hp:Q7x Tryz.prog Gl 44 [.str n] (.bool true)) (hi:1≤id∧id≤65534) (h:Yx c 0 R=some (i,C)) (ha:Js id 0 C.all=none) {x:Int} (hn:Gk n 0 C.ids=some (j,x)) :
  Q0j Tryz.prog Gl 21 R [.str c,.str n,.int .i64 id] (.int .i64 16) R:=by
 refine Ge rfl h fun g hg=>?_;refine Q6 k21 ?_;refine Vg hp (.cons (.p _) .nil) ?_;refine ifF (cF (by unfold Q2;simp;omega)) ?_;refine ifF (cF (by unfold Q2;simp;omega)) ?_;refine (Q6 k23 ?_:Qd Tryz.prog Gl 23 _ _ _);refine Xk (Xi R g 0 i hg h) ?_;refine Wk (Ur ha) ?_;refine Xk (Q1y hn) ?_;exact ⟨.p _,Vh [_,_] rfl⟩
theorem Qx2 (hp:Q7x Tryz.prog Gl 44 [.str n] (.bool true)) (hi:1≤id∧id≤65534) (h:Yx c 0 R=some (i,C)) (ha:Js id 0 C.all=none) (hn:Gk n 0 C.ids=none) :
  Q0j Tryz.prog Gl 21 R [.str c,.str n,.int .i64 id] (.int .i64 0) (R.set i (c,⟨C.ids ++ [(n,id)],C.all ++ [(id,n,true)],C.back,C.next⟩)):=by
 refine Qza rfl h fun g hg=>?_;refine Q6 k21 ?_;refine Vg hp (.cons (.p _) .nil) ?_;refine ifF (cF (by unfold Q2;simp;omega)) ?_;refine ifF (cF (by unfold Q2;simp;omega)) ?_;refine (Q6 k23 ?_:Qd Tryz.prog Gl 23 _ _ _);refine Xk (Xi R g 0 i hg h) ?_;refine Wk (Ur ha) ?_;refine Wk (Jx hn) ?_;refine (Q6 k39 ?_:Qd Tryz.prog Gl 39 _ _ _);refine Wk (Ur ha) ?_;refine Qju 5 rfl ?_
 repeat' first
  | exact trivial
  | refine Xk (Xi R g 0 i hg h) ?_
  | refine Wk (Jx hn) ?_
  | refine Wk (Ur ha) ?_
  | refine apP (l:=Q5i C.ids) (Qol _ _ _) ?_
  | refine apP (l:=Q2n C.all) (Qqi _ _ _ _) ?_
  | refine Xx 8 rfl rfl ?_
  | refine Xx 7 rfl rfl ?_
  | refine (Q6 k45 ?_:Qd Tryz.prog Gl 45 _ _ _)
  | refine (Q6 k47 ?_:Qd Tryz.prog Gl 47 _ _ _)
  | exact ⟨.p _,Vh [_,_,_,_] rfl⟩
  | exact ⟨.p _,Vh [_,_,_] rfl⟩
  | refine ⟨?_,?_⟩
def lsT:List AV := .ptr 2 0 :: .any :: .p (.int .i64 0)::a16 (a16 (a8 (a4 (a2 (.any :: [])))))
theorem Qy2 {s:Int} (h1:1≤s) (h2:s≤65534):IntKind.wrap .i64 (s+1)=s+1:=by
 rw [IntKind.wrap_i64];omega
theorem Qqr {g:List (Nat×Nat)} {a b} {d:List Int} {w x:Int} {H':List AObj} (e:w=x) (h:Q9f R g i c ⟨a,b,d,w⟩ H'):Q9f R g i c ⟨a,b,d,x⟩ H':=e▸h
theorem Qxl (hp:Q7x Tryz.prog Gl 44 [.str n] (.bool true)) {ids:List (List UInt8×Int)} {all:List (Int×List UInt8×Bool)} {s0 nx:Int} {N:Nat} (h:Yx c 0 R=some (i,⟨ids,all,[],s0⟩)) (hn:Gk n 0 ids=none)
  (hl:Q2b all N s0=some (id,nx)) (h0:id≠0):Q0j Tryz.prog Gl 19 R [.str c,.str n] (.tuple [.int .i64 id,.bool true,.int .i64 0]) (R.set i (c,⟨ids ++ [(n,id)],all ++ [(id,n,false)],[],nx⟩)):=by
 refine Qza rfl h fun g hg=>?_;refine Q6 k19 ?_;refine Vg hp (.cons (.p _) .nil) ?_;refine (Q6 k45 ?_:Qd Tryz.prog Gl 45 _ _ _);refine Xk (Xi R g 0 i hg h) ?_;refine Wk (Jx hn) ?_;refine (Q6 k46 ?_:Qd Tryz.prog Gl 46 _ _ _);refine Z2 1 ?_;refine ifF (cF (by unfold Q2;rfl)) ?_
 refine lpC (fun _=>lsT) (fun s=>Q4l R g i c ⟨ids,all,[],s⟩) (Q2b all) s0 hl (fun i=>i) (Z10 [] (by rfl) (by repeat' first | exact rN | refine rA ?_ | refine rE rfl ?_) rfl) (fun k s hk=>?_)
 simp only [Q2b] at hk;split at hk
 ·rename_i h1;refine ifP (fun h2=>?_) (fun h2=>?_)
  ·rw [Env.c1] at h2
   have h2:s≤65534:=by unfold Q2 at h2;simpa using h2
   rw [Af h2] at hk;refine (Q6 k39 ?_:Qd Tryz.prog Gl 39 _ _ _)
   cases ha:Js s 0 all with
   | some q=>
    simp only [ha] at hk;refine Xk (Us ha) ?_;refine ⟨(k,IntKind.wrap .i64 (s+1)),(by rw [Qy2 h1 h2];exact hk),Lg _,fun i=>i,?_⟩;refine Z10 [_] rfl ?_ rfl
    repeat' first | exact rN | refine rA ?_ | refine rE rfl ?_
   | none=>
    simp only [ha] at hk;cases hk;refine Wk (Ur ha) ?_;refine ifF (cF (by unfold Q2;simp;omega)) ?_;refine (Q6 k47 ?_:Qd Tryz.prog Gl 47 _ _ _);refine Xx 8 rfl rfl ?_;refine Wk (Jx hn) ?_;refine apP (l:=Q5i ids) (Qol _ _ _) ?_;refine Xx 7 rfl rfl ?_;refine Wk (Ur ha) ?_;refine apP (l:=Q2n all) (Qqi _ _ _ _) ?_;exact ⟨fzT (.cons (.p _) (.cons (.p _) (.cons (.p _) .nil))),Qqr (Qy2 h1 h2) (Vh [_,_] rfl)⟩
  exfalso;rw [Env.c1] at h2;unfold Q2 at h2;rw [Ae (by simpa using h2)] at hk;cases hk;exact h0 rfl
 cases hk
theorem Qsv (hp:Q7x Tryz.prog Gl 44 [.str n] (.bool true)) {ids:List (List UInt8×Int)} {all:List (Int×List UInt8×Bool)} {s0 nx:Int} {N:Nat} (h:Yx c 0 R=some (i,⟨ids,all,[],s0⟩)) (hn:Gk n 0 ids=none)
  (hl:Q2b all N s0=some (0,nx)):Q0j Tryz.prog Gl 19 R [.str c,.str n] (.tuple [.int .i64 0,.bool false,.int .i64 12]) (R.set i (c,⟨ids,all,[],nx⟩)):=by
 refine Qza rfl h fun g hg=>?_;refine Q6 k19 ?_;refine Vg hp (.cons (.p _) .nil) ?_;refine (Q6 k45 ?_:Qd Tryz.prog Gl 45 _ _ _);refine Xk (Xi R g 0 i hg h) ?_;refine Wk (Jx hn) ?_;refine (Q6 k46 ?_:Qd Tryz.prog Gl 46 _ _ _);refine Z2 1 ?_;refine ifF (cF (by unfold Q2;rfl)) ?_
 refine lpC (fun _=>lsT) (fun s=>Q4l R g i c ⟨ids,all,[],s⟩) (Q2b all) s0 hl (fun i=>i) (Z10 [] (by rfl) (by repeat' first | exact rN | refine rA ?_ | refine rE rfl ?_) rfl) (fun k s hk=>?_)
 simp only [Q2b] at hk;split at hk
 ·rename_i h1;refine ifP (fun h2=>?_) (fun h2=>?_)
  ·rw [Env.c1] at h2
   have h2:s≤65534:=by unfold Q2 at h2;simpa using h2
   rw [Af h2] at hk;refine (Q6 k39 ?_:Qd Tryz.prog Gl 39 _ _ _)
   cases ha:Js s 0 all with
   | some q=>
    simp only [ha] at hk;refine Xk (Us ha) ?_;refine ⟨(k,IntKind.wrap .i64 (s+1)),(by rw [Qy2 h1 h2];exact hk),Lg _,fun i=>i,?_⟩;refine Z10 [_] rfl ?_ rfl
    repeat' first | exact rN | refine rA ?_ | refine rE rfl ?_
   | none=>
    exfalso;simp only [ha] at hk;simp at hk;omega
  rw [Env.c1] at h2;unfold Q2 at h2;rw [Ae (by simpa using h2)] at hk;cases hk;refine ifT (cF (by unfold Q2;rfl)) ?_;exact ⟨fzT (.cons (.p _) (.cons (.p _) (.cons (.p _) .nil))),Vh [] rfl⟩
 cases hk
theorem Qsk:Q0j Tryz.prog Gl 12 R [.str c,.int .i64 id] (.tuple [.str (Q4p R c id).1,.int .i64 (Q4p R c id).2]) R:=by
 unfold Q4p
 cases h:Yx c 0 R with
 | none=>exact Qp6 h
 | some q=>
  obtain ⟨i,C⟩:=q;show Q0j _ _ _ _ _ (.tuple [.str (match Js id 0 C.all with | none=>_ | some (_,v)=>_:List UInt8×Int).1,.int .i64 (match Js id 0 C.all with | none=>_ | some (_,v)=>_:List UInt8×Int).2]) _
  cases ha:Js id 0 C.all with
  | none=>exact Qxj h ha
  | some v=>exact Qvk h ha
theorem Qns:Q0j Tryz.prog Gl 13 R [.str c,.int .i64 id] (.bool (Q55 R c id)) R:=by
 unfold Q55
 cases h:Yx c 0 R with
 | none=>exact Qlt h
 | some q=>
  obtain ⟨i,C⟩:=q;show Q0j _ _ _ _ _ (.bool (match Js id 0 C.all with | none=>_ | some (_,v)=>_)) _
  cases ha:Js id 0 C.all with
  | none=>exact Qsp h ha
  | some v=>exact Qr5 h ha
theorem Qy3 {b:Bool} (hw:WR R) (hp:Q7x Tryz.prog Gl 44 [.str n] (.bool b)) :
  Q0j Tryz.prog Gl 19 R [.str c,.str n] (.tuple [.int .i64 (Qe8 b R c n).1.1,.bool (Qe8 b R c n).1.2.1,.int .i64 (Qe8 b R c n).1.2.2]) (Qe8 b R c n).2:=by
 cases b with
 | false=>exact Qy4 hp
 | true=>
  simp only [Qe8,Ak,Q5u,Qpz]
  cases h:Yx c 0 R with
  | none=>exact Qv5 hp h
  | some q=>
   obtain ⟨i,C⟩:=q;have hwc:=hw _ (Qbf h);simp only [Mr,Qdu]
   cases hn:Gk n 0 C.ids with
   | some q=>simp only [];rw [Q7s h];exact Qxo hp h hn
   | none=>
    obtain ⟨ids,all,back,s0⟩:=C;obtain ⟨h1,h2,h3⟩:=hwc
    simp only at h1 h2 h3 hn
    subst h1;obtain ⟨id,nx,hl,_,_,_⟩:=Q2z all 65536 s0 h2 h3 (by omega);simp only [hl]
    by_cases h0:id=0
    ·subst h0;exact Qsv hp h hn hl
    simp only [Ae h0];exact Qxl hp h hn hl h0
theorem Qx0 {b:Bool} (hp:Q7x Tryz.prog Gl 44 [.str n] (.bool b)) :
  Q0j Tryz.prog Gl 21 R [.str c,.str n,.int .i64 id] (.int .i64 (Qr1 b R c n id).1) (Qr1 b R c n id).2:=by
 cases b with
 | false=>exact Qwv hp
 | true=>
  simp only [Qr1,Ak]
  by_cases hi:1≤id∧id≤65534
  ·simp only [Af hi,Q5u,Qpz]
   cases h:Yx c 0 R with
   | none=>exact Qxw hp hi h
   | some q=>
    obtain ⟨i,C⟩:=q;simp only [Mr,Qft]
    cases ha:Js id 0 C.all with
    | some q=>
     obtain ⟨j,v⟩:=q;simp only []
     by_cases hv:v=(n,true)
     ·subst hv;simp only [Ak];rw [Q7s h];exact Qs3 hp hi h ha
     simp only [Ae hv];rw [Q7s h];exact Z0b hp hi h ha hv
    | none=>
     cases hn:Gk n 0 C.ids with
     | some q=>simp only [];rw [Q7s h];exact Qny hp hi h ha hn
     | none=>exact Qx2 hp hi h ha hn
  simp only [Ae hi];exact Qwo hp hi
end
end
end Go.Av
