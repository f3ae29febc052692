/- Part of FromsnLearns: the law returns true; no condition. -/
import Derived.Test.YtgkmcegmobfknaaGreatDoorAvBase
set_option linter.all false
namespace Go.Av
noncomputable section
universe u
def plc (hp:List AObj) (na:Nat) (o:AObj):List AObj:=if na=hp.length then hp ++ [o] else hp.set na o
theorem Q3k {H:List AObj} {na:Nat} (h:na≤H.length) (o:AObj) (x:Nat):(plc H na o)[x]? = if x=na then some o else H[x]? := by
 unfold plc
 by_cases hn:na=H.length
 ·subst hn;rw [Af rfl]
  by_cases hx:x=H.length
  ·subst hx;simp
  rw [Ae hx]
  by_cases hlt:x<H.length
  ·rw [Lk hlt]
  rw [Mj (by simp;omega),Mj (by omega)]
 rw [Ae hn]
 by_cases hx:x=na
 ·subst hx;rw [Af rfl,Ll (by omega)]
 rw [Ae hx,Lj (fun e=>hx e.symm)]
theorem Q4r {H:List AObj} {na:Nat} (o:AObj):H.length≤(plc H na o).length∧(na≤H.length->na<(plc H na o).length):=by
 unfold plc
 split<;>simp<;>omega

section
variable {α:Type u} (E:Env α)

def Q4 (tm:List AV):Opd->AV
 | .t i=>tm.getD i .any
 | .c v => .p v
 | .g i => .gptr i 0
 | .f i => .p (.func (.func i) [] [])
 | .m tbl i=>Qdz tbl (tm.getD i .any)
 | .mm tbls i=>Qie tbls (tm.getD i .any)
 | .d _ _ => .any

theorem Gn:∀ (l:List AV) (i:Nat) (k:AV->α),Qkk l i k=k (l.getD i .any)
 | [],i,k=>by show k .any=_;simp
 | v::vs,0,k=>by show k v=_;simp
 | v::vs,n+1,k=>by show Qkk vs n k=_;rw [Gn vs n k];simp
theorem Q3p:∀ (l:List AV) (i:Nat) (x:AV) (k:List AV->α),Qp4 l i x k=k (l.set i x)
 | [],i,x,k=>by show k []=_;simp
 | v::vs,0,x,k=>by show k (x::vs)=_;simp
 | v::vs,n+1,x,k=>by show Qp4 vs n x (fun vs=>k (v::vs))=_;rw [Q3p vs n x];simp
theorem Q7j {β:Type}:∀ (n:Nat) (l:List β) (k:List β->α),Qlh n l k=k (l.take n)
 | 0,l,k=>by show k []=_;simp
 | n+1,[],k=>by show k []=_;simp
 | n+1,v::vs,k=>by show Qlh n vs (fun vs=>k (v::vs))=_;rw [Q7j n vs];simp
theorem Gh {β:Type}:∀ (n:Nat) (l:List β) (k:List β->α),Q8b n l k=k (l.drop n)
 | 0,l,k=>by show k l=_;simp
 | n+1,[],k=>by show k []=_;simp
 | n+1,v::vs,k=>by show Q8b n vs k=_;rw [Gh n vs];simp
theorem Gi {β:Type}:∀ (a b:List β) (k:List β->α),Qc5 a b k=k (a++b)
 | [],b,k=>by show k b=_;simp
 | v::vs,b,k=>by show Qc5 vs b (fun r=>k (v::r))=_;rw [Gi vs];simp
theorem Wt {β γ:Type} (f : β->γ):∀ (a:List β) (k:List γ->α),Q69 f a k=k (a.map f)
 | [],k=>by show k []=_;simp
 | v::vs,k=>by show Q69 f vs (fun r=>k (f v::r))=_;rw [Wt f vs];simp
theorem Q4w:∀ (l:List AObj) (i:Nat) (x:AObj) (k:List AObj->α),Qn5 l i x k=k (l.set i x)
 | [],i,x,k=>by show k []=_;simp
 | v::vs,0,x,k=>by show k (x::vs)=_;simp
 | v::vs,n+1,x,k=>by show Qn5 vs n x (fun vs=>k (v::vs))=_;rw [Q4w vs n x];simp
theorem Gq:∀ (l:List AObj) (i:Nat) (k:AObj->α),Qgm E l i k=(match l[i]? with
  | some o=>k o
  | none=>E.fail)
 | [],i,k=>by show E.fail=_;simp
 | v::vs,0,k=>by show k v=_;simp
 | v::vs,n+1,k=>by show Qgm E vs n k=_;rw [Gq vs n k];simp
theorem Qfm {β:Type} (x : β):∀ (n:Nat) (k:List β->α),Qvf x n k=k (List.replicate n x)
 | 0,k=>by show k []=_;simp
 | n+1,k=>by show Qvf x n (fun r=>k (x::r))=_;rw [Qfm x n];simp [List.replicate_succ]
theorem Z1 (tm:List AV) (k:AV->α) (x:Opd):Ww tm k x=k (Q4 tm x):=by
 cases x<;>simp [Ww,Q4,Gn]
theorem J7 (tm:List AV):∀ (l:List Opd) (k:List AV->α),Q9h tm l k=k (l.map (Q4 tm))
 | [],k=>by simp [Qpo]
 | x::r,k=>by simp [Qmy,Z1,J7 tm r]
theorem Qfd (tm:List AV) (k:Option AV->α) (x:Option Opd):Qn7 tm k x=k (x.map (Q4 tm)):=by
 cases x<;>simp [Qn7,Z1]

theorem Qag (k:List AV->α) (v:AV):Qdc E k v=(match v.cells? with
  | some cs=>k cs
  | none=>E.fail):=by
 unfold Qdc AV.cells?
 split<;>simp_all [Wt]
theorem Qpi (k:List AV->α) (v:AV):Qzg E k v=(match v.aggs? with
  | some cs=>k cs
  | none=>E.fail):=by
 unfold Qzg AV.aggs?
 split<;>simp_all [Wt]
end
end
end Go.Av
