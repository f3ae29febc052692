/- Part of the proof of CrossKeeps: for every input the law returns true; no condition. -/
import Derived.Test.YtaokaobiihpkbaaGreatDoorAvBase
set_option linter.all false
namespace Go.Av
noncomputable section
universe u
def plc (hp:List AObj) (na:Nat) (o:AObj):List AObj:=if na=hp.length then hp ++ [o] else hp.set na o
theorem Q67 {H:List AObj} {na:Nat} (h:na≤H.length) (o:AObj) (x:Nat):(plc H na o)[x]? = if x=na then some o else H[x]? := by
 unfold plc
 by_cases hn:na=H.length
 ·subst hn;rw [Af rfl]
  by_cases hx:x=H.length
  ·subst hx;simp
  rw [Ae hx]
  by_cases hlt:x<H.length
  ·rw [Lk hlt]
  rw [My (by simp;omega),My (by omega)]
 rw [Ae hn]
 by_cases hx:x=na
 ·subst hx;rw [Af rfl,Lo (by omega)]
 rw [Ae hx,Lj (fun e=>hx e.symm)]
theorem Q7s {H:List AObj} {na:Nat} (o:AObj):H.length≤(plc H na o).length∧(na≤H.length→na<(plc H na o).length):=by
 unfold plc
 split<;>simp<;>omega

section
variable {α:Type u} (E:Env α)

def Q6 (tm:List AV):Opd→AV
 | .t i=>tm.getD i .any
 | .c v => .p v
 | .g i => .gptr i 0
 | .f i => .p (.func (.func i) [] [])
 | .m tbl i=>Qgq tbl (tm.getD i .any)
 | .mm tbls i=>Qlw tbls (tm.getD i .any)

theorem Q25:∀ (l:List AV) (i:Nat) (k:AV → α),Qoz l i k=k (l.getD i .any)
 | [],i,k=>by show k .any=_;simp
 | v::vs,0,k=>by show k v=_;simp
 | v::vs,n+1,k=>by show Qoz vs n k=_;rw [Q25 vs n k];simp
theorem Q60:∀ (l:List AV) (i:Nat) (x:AV) (k:List AV → α),Qs2 l i x k=k (l.set i x)
 | [],i,x,k=>by show k []=_;simp
 | v::vs,0,x,k=>by show k (x::vs)=_;simp
 | v::vs,n+1,x,k=>by show Qs2 vs n x (fun vs=>k (v::vs))=_;rw [Q60 vs n x];simp
theorem Qaf {β:Type}:∀ (n:Nat) (l:List β) (k:List β → α),Qoh n l k=k (l.take n)
 | 0,l,k=>by show k []=_;simp
 | n+1,[],k=>by show k []=_;simp
 | n+1,v::vs,k=>by show Qoh n vs (fun vs=>k (v::vs))=_;rw [Qaf n vs];simp
theorem Q2l {β:Type}:∀ (n:Nat) (l:List β) (k:List β → α),Qc5 n l k=k (l.drop n)
 | 0,l,k=>by show k l=_;simp
 | n+1,[],k=>by show k []=_;simp
 | n+1,v::vs,k=>by show Qc5 n vs k=_;rw [Q2l n vs];simp
theorem Q0v {β:Type}:∀ (a b:List β) (k:List β → α),Qi2 a b k=k (a++b)
 | [],b,k=>by show k b=_;simp
 | v::vs,b,k=>by show Qi2 vs b (fun r=>k (v::r))=_;rw [Q0v vs];simp
theorem Va {β γ:Type} (f : β → γ):∀ (a:List β) (k:List γ → α),Q9w f a k=k (a.map f)
 | [],k=>by show k []=_;simp
 | v::vs,k=>by show Q9w f vs (fun r=>k (f v::r))=_;rw [Va f vs];simp
theorem Q7e:∀ (l:List AObj) (i:Nat) (x:AObj) (k:List AObj → α),Qpk l i x k=k (l.set i x)
 | [],i,x,k=>by show k []=_;simp
 | v::vs,0,x,k=>by show k (x::vs)=_;simp
 | v::vs,n+1,x,k=>by show Qpk vs n x (fun vs=>k (v::vs))=_;rw [Q7e vs n x];simp
theorem Q0z:∀ (l:List AObj) (i:Nat) (k:AObj → α),Qjj E l i k=(match l[i]? with
  | some o=>k o
  | none=>E.fail)
 | [],i,k=>by show E.fail=_;simp
 | v::vs,0,k=>by show k v=_;simp
 | v::vs,n+1,k=>by show Qjj E vs n k=_;rw [Q0z vs n k];simp
theorem Qgn {β:Type} (x : β):∀ (n:Nat) (k:List β → α),Qyj x n k=k (List.replicate n x)
 | 0,k=>by show k []=_;simp
 | n+1,k=>by show Qyj x n (fun r=>k (x::r))=_;rw [Qgn x n];simp [List.replicate_succ]
theorem Z2 (tm:List AV) (k:AV → α) (x:Opd):V4 tm k x=k (Q6 tm x):=by
 cases x<;>simp [V4,Q6,Q25]
theorem Q0d (tm:List AV):∀ (l:List Opd) (k:List AV → α),Qf2 tm l k=k (l.map (Q6 tm))
 | [],k=>by simp [Qqw]
 | x::r,k=>by simp [Qot,Z2,Q0d tm r]
theorem Qgv (tm:List AV) (k:Option AV → α) (x:Option Opd):Qpm tm k x=k (x.map (Q6 tm)):=by
 cases x<;>simp [Qpm,Z2]

theorem Qd5 (k:List AV → α) (v:AV):Qfx E k v=(match v.cells? with
  | some cs=>k cs
  | none=>E.fail):=by
 unfold Qfx AV.cells?
 split<;>simp_all [Va]
theorem Qpq (k:List AV → α) (v:AV):Qzl E k v=(match v.aggs? with
  | some cs=>k cs
  | none=>E.fail):=by
 unfold Qzl AV.aggs?
 split<;>simp_all [Va]
end
end
end Go.Av
