/- Part of the proof of CrossRound: for every input the law returns true; no condition. -/
import Derived.Test.YtaokaobiihpkbaaGreatDoorAvBase
set_option linter.all false
namespace Go.Av
noncomputable section
universe u
def plc (hp:List AObj) (na:Nat) (o:AObj):List AObj:=if na=hp.length then hp ++ [o] else hp.set na o
theorem Q4f {H:List AObj} {na:Nat} (h:na≤H.length) (o:AObj) (x:Nat):(plc H na o)[x]? = if x=na then some o else H[x]? := by
 unfold plc
 by_cases hn:na=H.length
 ·subst hn;rw [if_pos rfl]
  by_cases hx:x=H.length
  ·subst hx;simp
  rw [if_neg hx]
  by_cases hlt:x<H.length
  ·rw [Lk hlt]
  rw [Mx (by simp;omega),Mx (by omega)]
 rw [if_neg hn]
 by_cases hx:x=na
 ·subst hx;rw [if_pos rfl,Lo (by omega)]
 rw [if_neg hx,Li (fun e=>hx e.symm)]
theorem Q5r {H:List AObj} {na:Nat} (o:AObj):H.length≤(plc H na o).length∧(na≤H.length→na<(plc H na o).length):=by
 unfold plc
 split<;>simp<;>omega

section
variable {α:Type u} (E:Env α)

def Q4 (tm:List AV):Opd→AV
 | .t i=>tm.getD i .any
 | .c v => .p v
 | .g i => .gptr i 0
 | .f i => .p (.func (.func i) [] [])
 | .m tbl i=>Qfh tbl (tm.getD i .any)
 | .mm tbls i=>Qit tbls (tm.getD i .any)

theorem Q12:∀ (l:List AV) (i:Nat) (k:AV → α),Qn3 l i k=k (l.getD i .any)
 | [],i,k=>by show k .any=_;simp
 | v::vs,0,k=>by show k v=_;simp
 | v::vs,n+1,k=>by show Qn3 vs n k=_;rw [Q12 vs n k];simp
theorem Q4o:∀ (l:List AV) (i:Nat) (x:AV) (k:List AV → α),Qpy l i x k=k (l.set i x)
 | [],i,x,k=>by show k []=_;simp
 | v::vs,0,x,k=>by show k (x::vs)=_;simp
 | v::vs,n+1,x,k=>by show Qpy vs n x (fun vs=>k (v::vs))=_;rw [Q4o vs n x];simp
theorem Q8x {β:Type}:∀ (n:Nat) (l:List β) (k:List β → α),Qmp n l k=k (l.take n)
 | 0,l,k=>by show k []=_;simp
 | n+1,[],k=>by show k []=_;simp
 | n+1,v::vs,k=>by show Qmp n vs (fun vs=>k (v::vs))=_;rw [Q8x n vs];simp
theorem Q18 {β:Type}:∀ (n:Nat) (l:List β) (k:List β → α),Qai n l k=k (l.drop n)
 | 0,l,k=>by show k l=_;simp
 | n+1,[],k=>by show k []=_;simp
 | n+1,v::vs,k=>by show Qai n vs k=_;rw [Q18 n vs];simp
theorem Gi {β:Type}:∀ (a b:List β) (k:List β → α),Qga a b k=k (a++b)
 | [],b,k=>by show k b=_;simp
 | v::vs,b,k=>by show Qga vs b (fun r=>k (v::r))=_;rw [Gi vs];simp
theorem Wm {β γ:Type} (f : β → γ):∀ (a:List β) (k:List γ → α),Q8r f a k=k (a.map f)
 | [],k=>by show k []=_;simp
 | v::vs,k=>by show Q8r f vs (fun r=>k (f v::r))=_;rw [Wm f vs];simp
theorem Q67:∀ (l:List AObj) (i:Nat) (x:AObj) (k:List AObj → α),Qnh l i x k=k (l.set i x)
 | [],i,x,k=>by show k []=_;simp
 | v::vs,0,x,k=>by show k (x::vs)=_;simp
 | v::vs,n+1,x,k=>by show Qnh vs n x (fun vs=>k (v::vs))=_;rw [Q67 vs n x];simp
theorem Gj:∀ (l:List AObj) (i:Nat) (k:AObj → α),Qhy E l i k=(match l[i]? with
  | some o=>k o
  | none=>E.fail)
 | [],i,k=>by show E.fail=_;simp
 | v::vs,0,k=>by show k v=_;simp
 | v::vs,n+1,k=>by show Qhy E vs n k=_;rw [Gj vs n k];simp
theorem Qex {β:Type} (x : β):∀ (n:Nat) (k:List β → α),Qv8 x n k=k (List.replicate n x)
 | 0,k=>by show k []=_;simp
 | n+1,k=>by show Qv8 x n (fun r=>k (x::r))=_;rw [Qex x n];simp [List.replicate_succ]
theorem Z0 (tm:List AV) (k:AV → α) (x:Opd):Wl tm k x=k (Q4 tm x):=by
 cases x<;>simp [Wl,Q4,Q12]
theorem Jy (tm:List AV):∀ (l:List Opd) (k:List AV → α),Qda tm l k=k (l.map (Q4 tm))
 | [],k=>by simp [Qpq]
 | x::r,k=>by simp [Qn6,Z0,Jy tm r]
theorem Qfo (tm:List AV) (k:Option AV → α) (x:Option Opd):Qnj tm k x=k (x.map (Q4 tm)):=by
 cases x<;>simp [Qnj,Z0]

theorem Qd3 (k:List AV → α) (v:AV):Qdy E k v=(match v.cells? with
  | some cs=>k cs
  | none=>E.fail):=by
 unfold Qdy AV.cells?
 split<;>simp_all [Wm]
theorem Qpj (k:List AV → α) (v:AV):Qxq E k v=(match v.aggs? with
  | some cs=>k cs
  | none=>E.fail):=by
 unfold Qxq AV.aggs?
 split<;>simp_all [Wm]
end
end
end Go.Av
