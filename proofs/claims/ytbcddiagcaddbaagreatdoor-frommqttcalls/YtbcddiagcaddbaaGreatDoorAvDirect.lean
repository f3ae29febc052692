/- Part of FrommqttCalls: the law returns true; no condition. -/
import Derived.Test.YtbcddiagcaddbaaGreatDoorAvBase
set_option linter.all false
namespace Go.Av
noncomputable section
universe u
def plc (hp:List AObj) (na:Nat) (o:AObj):List AObj:=if na=hp.length then hp ++ [o] else hp.set na o
theorem Qak {H:List AObj} {na:Nat} (h:na≤H.length) (o:AObj) (x:Nat):(plc H na o)[x]? = if x=na then some o else H[x]? := by
 unfold plc
 by_cases hn:na=H.length
 ·subst hn;rw [Af rfl]
  by_cases hx:x=H.length
  ·subst hx;simp
  rw [Ae hx]
  by_cases hlt:x<H.length
  ·rw [Lr hlt]
  rw [Bd (by simp;omega),Bd (by omega)]
 rw [Ae hn]
 by_cases hx:x=na
 ·subst hx;rw [Af rfl,Ls (by omega)]
 rw [Ae hx,Lp (fun e=>hx e.symm)]
theorem Qbu {H:List AObj} {na:Nat} (o:AObj):H.length≤(plc H na o).length∧(na≤H.length->na<(plc H na o).length):=by
 unfold plc
 split<;>simp<;>omega

section
variable {α:Type u} (E:Env α)

def Qb (tm:List AV):Opd->AV
 | .t i=>tm.getD i .any
 | .c v => .p v
 | .g i => .gptr i 0
 | .f i => .p (.func (.func i) [] [])
 | .m tbl i=>Qne tbl (tm.getD i .any)
 | .mm tbls i=>Qqt tbls (tm.getD i .any)

theorem Q84:∀ (l:List AV) (i:Nat) (k:AV->α),Quc l i k=k (l.getD i .any)
 | [],i,k=>by show k .any=_;simp
 | v::vs,0,k=>by show k v=_;simp
 | v::vs,n+1,k=>by show Quc vs n k=_;rw [Q84 vs n k];simp
theorem Qe4:∀ (l:List AV) (i:Nat) (x:AV) (k:List AV->α),Quz l i x k=k (l.set i x)
 | [],i,x,k=>by show k []=_;simp
 | v::vs,0,x,k=>by show k (x::vs)=_;simp
 | v::vs,n+1,x,k=>by show Quz vs n x (fun vs=>k (v::vs))=_;rw [Qe4 vs n x];simp
theorem Qfc {β:Type}:∀ (n:Nat) (l:List β) (k:List β->α),Qtg n l k=k (l.take n)
 | 0,l,k=>by show k []=_;simp
 | n+1,[],k=>by show k []=_;simp
 | n+1,v::vs,k=>by show Qtg n vs (fun vs=>k (v::vs))=_;rw [Qfc n vs];simp
theorem Q47 {β:Type}:∀ (n:Nat) (l:List β) (k:List β->α),Qg9 n l k=k (l.drop n)
 | 0,l,k=>by show k l=_;simp
 | n+1,[],k=>by show k []=_;simp
 | n+1,v::vs,k=>by show Qg9 n vs k=_;rw [Q47 n vs];simp
theorem Q5i {β:Type}:∀ (a b:List β) (k:List β->α),Qor a b k=k (a++b)
 | [],b,k=>by show k b=_;simp
 | v::vs,b,k=>by show Qor vs b (fun r=>k (v::r))=_;rw [Q5i vs];simp
theorem J8 {β γ:Type} (f : β->γ):∀ (a:List β) (k:List γ->α),Qe9 f a k=k (a.map f)
 | [],k=>by show k []=_;simp
 | v::vs,k=>by show Qe9 f vs (fun r=>k (f v::r))=_;rw [J8 f vs];simp
theorem Qby:∀ (l:List AObj) (i:Nat) (x:AObj) (k:List AObj->α),Qus l i x k=k (l.set i x)
 | [],i,x,k=>by show k []=_;simp
 | v::vs,0,x,k=>by show k (x::vs)=_;simp
 | v::vs,n+1,x,k=>by show Qus vs n x (fun vs=>k (v::vs))=_;rw [Qby vs n x];simp
theorem Q4b:∀ (l:List AObj) (i:Nat) (k:AObj->α),Qol E l i k=(match l[i]? with
  | some o=>k o
  | none=>E.fail)
 | [],i,k=>by show E.fail=_;simp
 | v::vs,0,k=>by show k v=_;simp
 | v::vs,n+1,k=>by show Qol E vs n k=_;rw [Q4b vs n k];simp
theorem Qng {β:Type} (x : β):∀ (n:Nat) (k:List β->α),Z3l x n k=k (List.replicate n x)
 | 0,k=>by show k []=_;simp
 | n+1,k=>by show Z3l x n (fun r=>k (x::r))=_;rw [Qng x n];simp [List.replicate_succ]
theorem Zg (tm:List AV) (k:AV->α) (x:Opd):Je tm k x=k (Qb tm x):=by
 cases x<;>simp [Je,Qb,Q84]
theorem Q3m (tm:List AV):∀ (l:List Opd) (k:List AV->α),Qks tm l k=k (l.map (Qb tm))
 | [],k=>by simp [Qvo]
 | x::r,k=>by simp [Qta,Zg,Q3m tm r]
theorem Qn2 (tm:List AV) (k:Option AV->α) (x:Option Opd):Quv tm k x=k (x.map (Qb tm)):=by
 cases x<;>simp [Quv,Zg]

theorem Qk1 (k:List AV->α) (v:AV):Qli E k v=(match v.cells? with
  | some cs=>k cs
  | none=>E.fail):=by
 unfold Qli AV.cells?
 split<;>simp_all [J8]
theorem Qxw (k:List AV->α) (v:AV):Z5y E k v=(match v.aggs? with
  | some cs=>k cs
  | none=>E.fail):=by
 unfold Z5y AV.aggs?
 split<;>simp_all [J8]
end
end
end Go.Av
